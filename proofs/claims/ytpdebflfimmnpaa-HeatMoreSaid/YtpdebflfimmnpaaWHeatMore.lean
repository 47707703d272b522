/- A part of the proof. -/
import Derived.Test.YtpdebflfimmnpaaHK
section
set_option linter.unusedSimpArgs false
set_option linter.unusedVariables false
set_option linter.defProp false
set_option maxRecDepth 100000
set_option maxHeartbeats 16000000
namespace Go.He
open Go.Proofs
open Go.Sx
theorem same_r (a : Nat) (u : Nat → Int) : decide (sameI a u a u) = true := decide_eq_true ⟨rfl, fun _ _ => rfl⟩
theorem nle20 {m : Nat} (h : ¬ 20 < m) : m ≤ 1000000 := by omega
end Go.He
end
section
set_option linter.unusedSimpArgs false
set_option linter.unusedVariables false
set_option linter.defProp false
set_option maxRecDepth 100000
set_option maxHeartbeats 16000000
namespace Go.He
open Go.Proofs
open Go.Sx
theorem c42 (N : Int) (m : Nat) (w : Nat → Wd) : Contract Try.prog 42 [rsv N m w] (B (decide (ckR N m w = 0))) := by
 refine contract_of Try.func42 rfl (by kernel_rfl) follows (by kernel_rfl) _ _ (by rw [Try.ntmps42]; simp) (by simp [OldL, Old, QV, rsv]) ?_
 unfold rsv B
 (repeat' (first | with_reducible (first | apply splitVC_d <;> intro _ | apply splitVC <;> intro _) | ((with_reducible refine And.intro ?_ ?_); focus (first | exact True.intro | omega | (simp only [InK, ne_eq, and_true, true_and]; omega) | (and_intros <;> first | exact .inr trivial | exact Nat.le_refl _ | exact one1 _ | exact one5 _ _ _ _ _ | exact one3 _ _ _ | exact .inl rfl | omega) | trivial)) | (simp -dsimp only [↓RP, RQ, Nat.reduceMul, reduceIte, reduceCtorEq, Nat.reduceAdd, Nat.reduceEqDiff, Nat.reduceLT, Nat.reduceLeDiff, Int.reduceEq, Int.reduceNeg, Int.reduceLT, Int.reduceLE, rsT, QW, Try.results42])))
 refine callVC (c17 N m w) (by (simp -dsimp only [↓RP, RQ, Nat.reduceMul, reduceIte, reduceCtorEq, Nat.reduceAdd, Nat.reduceEqDiff, Nat.reduceLT, Nat.reduceLeDiff, QV, rsv, ints, I, B, wag]); all_goals (try simp [QV, Go.Sx.Sub, Go.Sx.SubL, wf_sub])) (by (simp -dsimp only [↓RP, RQ, Nat.reduceMul, reduceIte, reduceCtorEq, Nat.reduceAdd, Nat.reduceEqDiff, Nat.reduceLT, Nat.reduceLeDiff, QV, rsT, nsv, rgv, I, B, wag]); all_goals (try simp [QV])) ?_
 by_cases h20 : 20 < m
 ·have f0 := decide_eq_true h20
  have hn : ckR N m w ≠ 0 := fun h => by have := (ckR_ok h).2.2.1; omega
  have fe := decide_eq_false hn
  (repeat' (first | with_reducible (first | apply splitVC_d <;> intro _ | apply splitVC <;> intro _) | ((with_reducible refine And.intro ?_ ?_); focus (first | exact True.intro | omega | (simp only [InK, ne_eq, and_true, true_and]; omega) | (and_intros <;> first | exact .inr trivial | exact Nat.le_refl _ | exact one1 _ | exact one5 _ _ _ _ _ | exact one3 _ _ _ | exact .inl rfl | omega) | trivial)) | (simp -dsimp only [↓RP, RQ, Nat.reduceMul, reduceIte, reduceCtorEq, Nat.reduceAdd, Nat.reduceEqDiff, Nat.reduceLT, Nat.reduceLeDiff, f0, fe, Int.reduceEq, Int.reduceNeg, Int.reduceLT, Int.reduceLE, rsT, QW, Try.results42])))
  all_goals try (exfalso; omega)
 ·have f0 := decide_eq_false h20
  (repeat' (first | with_reducible (first | apply splitVC_d <;> intro _ | apply splitVC <;> intro _) | ((with_reducible refine And.intro ?_ ?_); focus (first | exact True.intro | omega | (simp only [InK, ne_eq, and_true, true_and]; omega) | (and_intros <;> first | exact .inr trivial | exact Nat.le_refl _ | exact one1 _ | exact one5 _ _ _ _ _ | exact one3 _ _ _ | exact .inl rfl | omega) | trivial)) | (simp -dsimp only [↓RP, RQ, Nat.reduceMul, reduceIte, reduceCtorEq, Nat.reduceAdd, Nat.reduceEqDiff, Nat.reduceLT, Nat.reduceLeDiff, f0, Int.reduceEq, Int.reduceNeg, Int.reduceLT, Int.reduceLE, rsT, QW, Try.results42])))
  all_goals try (exfalso; omega)
  refine callVC (c20 N m w (nle20 h20)) (by (simp -dsimp only [↓RP, RQ, Nat.reduceMul, reduceIte, reduceCtorEq, Nat.reduceAdd, Nat.reduceEqDiff, Nat.reduceLT, Nat.reduceLeDiff, QV, rsv, ints, I, B, wag]); all_goals (try simp [QV, Go.Sx.Sub, Go.Sx.SubL, wf_sub])) (by (simp -dsimp only [↓RP, RQ, Nat.reduceMul, reduceIte, reduceCtorEq, Nat.reduceAdd, Nat.reduceEqDiff, Nat.reduceLT, Nat.reduceLeDiff, QV, rsT, nsv, rgv, I, B, wag]); all_goals (try simp [QV])) ?_
  (repeat' (first | with_reducible (first | apply splitVC_d <;> intro _ | apply splitVC <;> intro _) | ((with_reducible refine And.intro ?_ ?_); focus (first | exact True.intro | omega | (simp only [InK, ne_eq, and_true, true_and]; omega) | (and_intros <;> first | exact .inr trivial | exact Nat.le_refl _ | exact one1 _ | exact one5 _ _ _ _ _ | exact one3 _ _ _ | exact .inl rfl | omega) | trivial)) | (simp -dsimp only [↓RP, RQ, Nat.reduceMul, reduceIte, reduceCtorEq, Nat.reduceAdd, Nat.reduceEqDiff, Nat.reduceLT, Nat.reduceLeDiff, f0, Int.reduceEq, Int.reduceNeg, Int.reduceLT, Int.reduceLE, rsT, QW, Try.results42])))
  all_goals try (exfalso; omega)
def pkW (n : Nat) (x y z : Int) : Wd := ⟨(x.toNat % n : Nat), ((x.toNat % n + 1 + y.toNat % (n - 1)) % n : Nat), (z.toNat % 3 : Nat)⟩
theorem tm {x : Int} (h : 0 ≤ x) (n : Nat) : x.tmod (n : Int) = ((x.toNat % n : Nat) : Int) := by
 obtain ⟨k, rfl⟩ : ∃ k : Nat, x = k := ⟨x.toNat, by omega⟩
 rw [Int.toNat_natCast, Int.tmod_eq_emod_of_nonneg (by omega)]; rfl
theorem pkW_ok {n : Nat} (h2 : 2 ≤ n) (x y z : Int) : okW n (pkW n x y z) := by
 have h1 := Nat.mod_lt x.toNat (show 0 < n by omega)
 have h3 := Nat.mod_lt y.toNat (show 0 < n - 1 by omega)
 have h4 := Nat.mod_lt (x.toNat % n + 1 + y.toNat % (n - 1)) (show 0 < n by omega)
 have h5 := Nat.mod_lt z.toNat (show 0 < 3 by omega)
 have key : ∀ a d : Nat, a < n → 1 ≤ d → d < n → (a + d) % n ≠ a := fun a d ha h1 hd => by
  by_cases c : a + d < n
  ·rw [Nat.mod_eq_of_lt c]; omega
  ·rw [Nat.mod_eq_sub_mod (by omega), Nat.mod_eq_of_lt (by omega)]; omega
 have hk := key _ (1 + y.toNat % (n - 1)) h1 (by omega) (by omega)
 rw [← Nat.add_assoc] at hk
 unfold okW pkW
 refine ⟨⟨by simp only; omega, by simp only; omega⟩, ⟨by simp only; omega, by simp only; omega⟩, ?_, by simp only; omega, by simp only; omega⟩
 simp only
 omega
theorem c44 (n : Nat) (h2 : 2 ≤ n) (h5 : n ≤ 5) (m : Nat) (w : Nat → Wd) (x y z : Int) (hx : 0 ≤ x ∧ x < 256) (hy : 0 ≤ y ∧ y < 256) (hz : 0 ≤ z ∧ z < 256) : Contract Try.prog 44 [rsv n m w, .val (.int .u8 x), .val (.int .u8 y), .val (.int .u8 z)] (wag (pkW n x y z)) := by
 refine contract_of Try.func44 rfl (by kernel_rfl) follows (by kernel_rfl) _ _ (by rw [Try.ntmps44]; simp) (by simp [OldL, Old, QV, rsv]) ?_
 have e1 : x.tmod (n : Int) = ((x.toNat % n : Nat) : Int) := tm hx.1 n
 have e2 : y.tmod ((n : Int) - 1) = ((y.toNat % (n - 1) : Nat) : Int) := by rw [show (n : Int) - 1 = ((n - 1 : Nat) : Int) by omega]; exact tm hy.1 (n - 1)
 have e3 : z.tmod 3 = ((z.toNat % 3 : Nat) : Int) := tm hz.1 3
 have e4 : (((x.toNat % n : Nat) : Int) + 1 + ((y.toNat % (n - 1) : Nat) : Int)).tmod (n : Int) = (((x.toNat % n + 1 + y.toNat % (n - 1)) % n : Nat) : Int) := by
  have := tm (x := ((x.toNat % n + 1 + y.toNat % (n - 1) : Nat) : Int)) (by omega) n
  rw [Int.toNat_natCast] at this
  rw [← this]; congr 1
 have h1 := Nat.mod_lt x.toNat (show 0 < n by omega)
 have h3 := Nat.mod_lt y.toNat (show 0 < n - 1 by omega)
 unfold rsv
 (repeat' (first | with_reducible (first | apply splitVC_d <;> intro _ | apply splitVC <;> intro _) | ((with_reducible refine And.intro ?_ ?_); focus (first | exact True.intro | omega | (simp only [InK, ne_eq, and_true, true_and]; omega) | (and_intros <;> first | exact .inr trivial | exact Nat.le_refl _ | exact one1 _ | exact one5 _ _ _ _ _ | exact one3 _ _ _ | exact .inl rfl | omega) | trivial)) | (simp -dsimp only [↓RP, RQ, Nat.reduceMul, reduceIte, reduceCtorEq, Nat.reduceAdd, Nat.reduceEqDiff, Nat.reduceLT, Nat.reduceLeDiff, e1, e2, e3, e4, Int.reduceEq, Int.reduceNeg, Int.reduceLT, Int.reduceLE, rsT, QW, Try.results44])))
 all_goals try (exfalso; omega)
 refine callVC (c46 ((x.toNat % n : Nat) : Int) ((z.toNat % 3 : Nat) : Int) (((x.toNat % n + 1 + y.toNat % (n - 1)) % n : Nat) : Int)) (by (simp -dsimp only [↓RP, RQ, Nat.reduceMul, reduceIte, reduceCtorEq, Nat.reduceAdd, Nat.reduceEqDiff, Nat.reduceLT, Nat.reduceLeDiff, QV, rsv, ints, I, B, wag]); all_goals (try simp [QV, Go.Sx.Sub, Go.Sx.SubL, wf_sub])) (by (simp -dsimp only [↓RP, RQ, Nat.reduceMul, reduceIte, reduceCtorEq, Nat.reduceAdd, Nat.reduceEqDiff, Nat.reduceLT, Nat.reduceLeDiff, QV, rsT, nsv, rgv, I, B, wag]); all_goals (try simp [QV])) ?_
 (repeat' (first | with_reducible (first | apply splitVC_d <;> intro _ | apply splitVC <;> intro _) | ((with_reducible refine And.intro ?_ ?_); focus (first | exact True.intro | omega | (simp only [InK, ne_eq, and_true, true_and]; omega) | (and_intros <;> first | exact .inr trivial | exact Nat.le_refl _ | exact one1 _ | exact one5 _ _ _ _ _ | exact one3 _ _ _ | exact .inl rfl | omega) | trivial)) | (simp -dsimp only [↓RP, RQ, Nat.reduceMul, reduceIte, reduceCtorEq, Nat.reduceAdd, Nat.reduceEqDiff, Nat.reduceLT, Nat.reduceLeDiff, wag, pkW, e1, e2, e3, e4, Int.reduceEq, Int.reduceNeg, Int.reduceLT, Int.reduceLE, rsT, QW, Try.results44])))
 all_goals try (exfalso; omega)
theorem one_wf (x : Wd) : ∀ j, oneCell (wf x j) = true
 | 0 => rfl
 | 1 => rfl
 | _ + 2 => rfl
def snW (m : Nat) (w : Nat → Wd) (x : Wd) (i : Nat) : Wd := if i < m then w i else x
theorem c45 (N : Int) (m : Nat) (w : Nat → Wd) (x : Wd) (hm : m ≤ 999999) : Contract Try.prog 45 [rsv N m w, wag x] (rsT N (m + 1) (snW m w x)) := by
 refine contract_ofF (farL [(1, [(0, 0)])]) Try.func45 rfl (by kernel_rfl) follows (by kernel_rfl) _ _ (by rw [Try.ntmps45]; simp) (by simp [OldL, Old, QV, rsv, wag]) ?_
 unfold rsv wag rsT
 (repeat' (first | with_reducible (first | apply splitVC_d <;> intro _ | apply splitVC <;> intro _) | ((with_reducible refine And.intro ?_ ?_); focus (first | exact True.intro | omega | (simp only [InK, ne_eq, and_true, true_and]; omega) | (and_intros <;> first | exact .inr trivial | exact Nat.le_refl _ | exact one1 _ | exact one5 _ _ _ _ _ | exact one3 _ _ _ | exact .inl rfl | omega) | trivial)) | (simp -dsimp only [↓RP, RQ, Nat.reduceMul, reduceIte, reduceCtorEq, Nat.reduceAdd, Nat.reduceEqDiff, Nat.reduceLT, Nat.reduceLeDiff, ↓RW, Int.reduceEq, Int.reduceNeg, Int.reduceLT, Int.reduceLE, rsT, QW, Try.results45])))
 all_goals (refine growRegion follows [(5, 7), (5, 10), (3, 7), (3, 10)] (by kernel_rfl) ?_)
 (repeat' (first | with_reducible (first | apply splitVC_d <;> intro _ | apply splitVC <;> intro _) | ((with_reducible refine And.intro ?_ ?_); focus (first | exact True.intro | omega | (simp only [InK, ne_eq, and_true, true_and]; omega) | (and_intros <;> first | exact .inr trivial | exact Nat.le_refl _ | exact one1 _ | exact one5 _ _ _ _ _ | exact one3 _ _ _ | exact .inl rfl | omega) | trivial)) | (simp -dsimp only [↓RP, RQ, Nat.reduceMul, reduceIte, reduceCtorEq, Nat.reduceAdd, Nat.reduceEqDiff, Nat.reduceLT, Nat.reduceLeDiff, ↓RW, Int.reduceEq, Int.reduceNeg, Int.reduceLT, Int.reduceLE, rsT, QW, Try.results45])))
 refine ⟨⟨.inr trivial, fun i j _ hj => one_wf (w i) j, by omega⟩, ⟨.inr trivial, Nat.le_refl _, one3 _ _ _, by omega⟩, Nat.le_refl _, fun i j hi hj => ?_⟩
 unfold snW
 by_cases h : i < m
 ·rw [if_pos h, if_pos h, if_neg (Nat.not_lt_zero i), Nat.sub_zero, wf_sub]; trivial
 ·obtain rfl : i = m := by omega
  rw [if_neg h, if_neg h, Nat.sub_self]
  rcases three hj with rfl | rfl | rfl <;> simp [wf, Go.Sx.Sub]
end Go.He
end
section
set_option linter.unusedSimpArgs false
set_option linter.unusedVariables false
set_option linter.defProp false
set_option maxRecDepth 100000
set_option maxHeartbeats 16000000
namespace Go.He
open Go.Proofs
open Go.Sx
theorem ck_sn {n m : Nat} {w : Nat → Wd} {x : Wd} (h : ckR n m w = 0) (hm : m < 12) (hx : okW n x) : ckR n (m + 1) (snW m w x) = 0 := by
 have ⟨n2, n5, _, hw⟩ := ckR_ok h
 unfold ckR
 rw [if_neg (fun h => h ⟨n2, n5⟩), if_neg (by omega), if_neg]
 rintro ⟨i, hi, hb⟩
 have hb : ¬ okW n (snW m w x i) := by simpa using hb
 unfold snW at hb
 by_cases c : i < m
 ·rw [if_pos c] at hb; exact hb (hw i c)
 ·rw [if_neg c] at hb; exact hb hx
theorem sn_agr {w : Nat → Wd} {m : Nat} {x : Wd} {f : Nat → Int} : agr (snW m w x) (m + 1) f ↔ agr w m f ∧ says x (fun y => f y.toNat) := by
 constructor
 ·intro h
  refine ⟨fun i hi => ?_, ?_⟩
  ·have := h i (by omega); unfold snW at this; rwa [if_pos hi] at this
  ·have := h m (by omega); unfold snW at this; rwa [if_neg (Nat.lt_irrefl m)] at this
 ·rintro ⟨h1, h2⟩ i hi
  unfold snW
  by_cases c : i < m
  ·rw [if_pos c]; exact h1 i c
  ·rw [if_neg c]; exact h2
theorem agrs_sn (w : Nat → Wd) (m n : Nat) (x : Wd) : agrs (snW m w x) (m + 1) n = (agrs w m n).filter (pW n x) := by
 unfold agrs
 rw [filter_lst]
 refine lst_congr fun t _ => ?_
 rw [Bool.eq_iff_iff, Bool.and_eq_true, okA_iff, okA_iff, sn_agr]
 unfold pW
 rw [decide_eq_true_eq]
 exact ⟨fun ⟨a, b, c⟩ => ⟨⟨a, b⟩, c⟩, fun ⟨⟨a, b⟩, c⟩ => ⟨a, b, c⟩⟩
theorem cn_ok {n m : Nat} {w : Nat → Wd} (h : ckR n m w = 0) : cnV n m w = ((agrs w m n).length : Nat) := by unfold cnV; rw [if_pos h, Int.toNat_natCast]
end Go.He
end
section
set_option linter.unusedSimpArgs false
set_option linter.unusedVariables false
set_option linter.defProp false
set_option maxRecDepth 100000
set_option maxHeartbeats 16000000
namespace Go.He
open Go.Proofs
open Go.Sx
theorem tn2 : Int.toNat 2 = 2 := rfl
theorem pl_4 {n m R : Nat} {w : Nat → Wd} (h : ckR n m w = 0) (hr : R < n) (h0 : (agrs w m n).length ≠ 0) : plV n m w (R : Nat) = (loP n (agrs w m n) R, hiP n (agrs w m n) R) ∧ kdE n m w (bdP n (R : Nat)) = 0 := by
 have hb : bdP n (R : Nat) = 0 := by unfold bdP; rw [if_pos (by omega)]
 have e := (kd_4 (p := fun _ => true) h hb h0).1
 refine ⟨?_, e⟩
 unfold plV
 rw [if_pos e, Int.toNat_natCast, Int.toNat_natCast]
theorem pl_3 {n m R : Nat} {w : Nat → Wd} (h : ckR n m w = 0) (hr : R < n) (h0 : (agrs w m n).length = 0) : kdE n m w (bdP n (R : Nat)) = 22 := by
 have hb : bdP n (R : Nat) = 0 := by unfold bdP; rw [if_pos (by omega)]
 exact (kd_3 (p := fun _ => true) h hb h0).1
theorem plc_mono {n R : Nat} {L L2 : List Nat} (hr : R < n) (hs : ∀ t, t ∈ L2 → t ∈ L) (h2 : L2 ≠ []) : loP n L R ≤ loP n L2 R ∧ hiP n L2 R ≤ hiP n L R := by
 obtain ⟨t, ht⟩ := List.exists_mem_of_ne_nil L2 h2
 have hL : L ≠ [] := fun e => by have := hs t ht; rw [e] at this; cases this
 have p := plc hr hL
 have q := plc hr h2
 obtain ⟨a, a1, a2⟩ := q.le'
 obtain ⟨b, b1, b2⟩ := q.ge'
 have := p.le a (hs a a1)
 have := p.ge b (hs b b1)
 omega
theorem kind_mono {L : List Nat} {p q : Nat → Bool} (h2 : (L.filter p).length ≠ 0) : kindV (L.filter q).length L.length = 1 ∨ kindV ((L.filter p).filter q).length (L.filter p).length = kindV (L.filter q).length L.length := by
 have hle : (L.filter p).length ≤ L.length := List.length_filter_le _ _
 have hq : (L.filter q).length ≤ L.length := List.length_filter_le _ _
 have hL : L.length ≠ 0 := by omega
 by_cases e0 : (L.filter q).length = 0
 ·right
  have : ((L.filter p).filter q).length = 0 := by
   rw [List.length_eq_zero_iff, List.filter_eq_nil_iff] at *
   intro a ha
   exact e0 a (List.mem_filter.1 ha).1
  rw [kindV_0.2 this, kindV_0.2 e0]
 ·by_cases e1 : (L.filter q).length = L.length
  ·right
   have : ((L.filter p).filter q).length = (L.filter p).length := by
    have h := List.length_filter_eq_length_iff.1 e1
    exact List.length_filter_eq_length_iff.2 fun a ha => h a (List.mem_filter.1 ha).1
   rw [(kindV_2 h2).2 this, (kindV_2 hL).2 e1]
  ·left; exact (kindV_1 hL).2 ⟨e0, e1⟩
theorem c10 (N : Int) (m : Nat) (w : Nat → Wd) (x0 x1 x2 y0 y1 y2 z : Int) (hx0 : 0 ≤ x0 ∧ x0 < 256) (hx1 : 0 ≤ x1 ∧ x1 < 256) (hx2 : 0 ≤ x2 ∧ x2 < 256) (hy0 : 0 ≤ y0 ∧ y0 < 256) (hy1 : 0 ≤ y1 ∧ y1 < 256) (hy2 : 0 ≤ y2 ∧ y2 < 256) (hz : 0 ≤ z ∧ z < 256) : Contract Try.prog 10 [rsv N m w, .agg [.val (.int .u8 x0), .val (.int .u8 x1), .val (.int .u8 x2)], .agg [.val (.int .u8 y0), .val (.int .u8 y1), .val (.int .u8 y2)], .val (.int .u8 z)] (B true) := by
 refine contract_of Try.func10 rfl (by kernel_rfl) follows (by kernel_rfl) _ _ (by rw [Try.ntmps10]; simp) (by simp [OldL, Old, QV, rsv]) ?_
 unfold rsv B
 (repeat' (first | with_reducible (first | apply splitVC_d <;> intro _ | apply splitVC <;> intro _) | ((with_reducible refine And.intro ?_ ?_); focus (first | exact True.intro | omega | (simp only [InK, ne_eq, and_true, true_and]; omega) | (and_intros <;> first | exact .inr trivial | exact Nat.le_refl _ | exact one1 _ | exact one5 _ _ _ _ _ | exact one3 _ _ _ | exact .inl rfl | omega) | trivial)) | (simp -dsimp only [↓RP, RQ, Nat.reduceMul, reduceIte, reduceCtorEq, Nat.reduceAdd, Nat.reduceEqDiff, Nat.reduceLT, Nat.reduceLeDiff, same_r, rsT, Int.reduceEq, Int.reduceNeg, Int.reduceLT, Int.reduceLE, nsv, rgv, wag, tn2, QW, Try.results10])))
 refine callVC (c42 N m w) (by (simp -dsimp only [↓RP, RQ, Nat.reduceMul, reduceIte, reduceCtorEq, Nat.reduceAdd, Nat.reduceEqDiff, Nat.reduceLT, Nat.reduceLeDiff, QV, rsv, ints, I, B, wag]); all_goals (try simp [QV, Go.Sx.Sub, Go.Sx.SubL, wf_sub])) (by (simp -dsimp only [↓RP, RQ, Nat.reduceMul, reduceIte, reduceCtorEq, Nat.reduceAdd, Nat.reduceEqDiff, Nat.reduceLT, Nat.reduceLeDiff, QV, rsT, nsv, rgv, I, B, wag]); all_goals (try simp [QV])) ?_
 by_cases he : ckR N m w = 0
 rotate_left
 ·have f0 := decide_eq_false he
  (repeat' (first | with_reducible (first | apply splitVC_d <;> intro _ | apply splitVC <;> intro _) | ((with_reducible refine And.intro ?_ ?_); focus (first | exact True.intro | omega | (simp only [InK, ne_eq, and_true, true_and]; omega) | (and_intros <;> first | exact .inr trivial | exact Nat.le_refl _ | exact one1 _ | exact one5 _ _ _ _ _ | exact one3 _ _ _ | exact .inl rfl | omega) | trivial)) | (simp -dsimp only [↓RP, RQ, Nat.reduceMul, reduceIte, reduceCtorEq, Nat.reduceAdd, Nat.reduceEqDiff, Nat.reduceLT, Nat.reduceLeDiff, f0, same_r, rsT, Int.reduceEq, Int.reduceNeg, Int.reduceLT, Int.reduceLE, nsv, rgv, wag, tn2, QW, Try.results10])))
  all_goals try (exfalso; omega)
  refine callVC (c18) (by (simp -dsimp only [↓RP, RQ, Nat.reduceMul, reduceIte, reduceCtorEq, Nat.reduceAdd, Nat.reduceEqDiff, Nat.reduceLT, Nat.reduceLeDiff, QV, rsv, ints, I, B, wag]); all_goals (try simp [QV, Go.Sx.Sub, Go.Sx.SubL, wf_sub])) (by (simp -dsimp only [↓RP, RQ, Nat.reduceMul, reduceIte, reduceCtorEq, Nat.reduceAdd, Nat.reduceEqDiff, Nat.reduceLT, Nat.reduceLeDiff, QV, rsT, nsv, rgv, I, B, wag]); all_goals (try simp [QV])) ?_
  (repeat' (first | with_reducible (first | apply splitVC_d <;> intro _ | apply splitVC <;> intro _) | ((with_reducible refine And.intro ?_ ?_); focus (first | exact True.intro | omega | (simp only [InK, ne_eq, and_true, true_and]; omega) | (and_intros <;> first | exact .inr trivial | exact Nat.le_refl _ | exact one1 _ | exact one5 _ _ _ _ _ | exact one3 _ _ _ | exact .inl rfl | omega) | trivial)) | (simp -dsimp only [↓RP, RQ, Nat.reduceMul, reduceIte, reduceCtorEq, Nat.reduceAdd, Nat.reduceEqDiff, Nat.reduceLT, Nat.reduceLeDiff, f0, same_r, rsT, Int.reduceEq, Int.reduceNeg, Int.reduceLT, Int.reduceLE, nsv, rgv, wag, tn2, QW, Try.results10])))
  all_goals try (exfalso; omega)
 have ⟨n2, n5, m12, _⟩ := ckR_ok he
 obtain ⟨n, rfl⟩ : ∃ n : Nat, N = n := ⟨N.toNat, by omega⟩
 have f0 := decide_eq_true he
 by_cases hm : 12 ≤ m
 ·have f1 := decide_eq_true (show (12 : Int) ≤ ((m : Nat) : Int) by omega)
  (repeat' (first | with_reducible (first | apply splitVC_d <;> intro _ | apply splitVC <;> intro _) | ((with_reducible refine And.intro ?_ ?_); focus (first | exact True.intro | omega | (simp only [InK, ne_eq, and_true, true_and]; omega) | (and_intros <;> first | exact .inr trivial | exact Nat.le_refl _ | exact one1 _ | exact one5 _ _ _ _ _ | exact one3 _ _ _ | exact .inl rfl | omega) | trivial)) | (simp -dsimp only [↓RP, RQ, Nat.reduceMul, reduceIte, reduceCtorEq, Nat.reduceAdd, Nat.reduceEqDiff, Nat.reduceLT, Nat.reduceLeDiff, f0, f1, same_r, rsT, Int.reduceEq, Int.reduceNeg, Int.reduceLT, Int.reduceLE, nsv, rgv, wag, tn2, QW, Try.results10])))
  all_goals try (exfalso; omega)
  refine callVC (c18) (by (simp -dsimp only [↓RP, RQ, Nat.reduceMul, reduceIte, reduceCtorEq, Nat.reduceAdd, Nat.reduceEqDiff, Nat.reduceLT, Nat.reduceLeDiff, QV, rsv, ints, I, B, wag]); all_goals (try simp [QV, Go.Sx.Sub, Go.Sx.SubL, wf_sub])) (by (simp -dsimp only [↓RP, RQ, Nat.reduceMul, reduceIte, reduceCtorEq, Nat.reduceAdd, Nat.reduceEqDiff, Nat.reduceLT, Nat.reduceLeDiff, QV, rsT, nsv, rgv, I, B, wag]); all_goals (try simp [QV])) ?_
  (repeat' (first | with_reducible (first | apply splitVC_d <;> intro _ | apply splitVC <;> intro _) | ((with_reducible refine And.intro ?_ ?_); focus (first | exact True.intro | omega | (simp only [InK, ne_eq, and_true, true_and]; omega) | (and_intros <;> first | exact .inr trivial | exact Nat.le_refl _ | exact one1 _ | exact one5 _ _ _ _ _ | exact one3 _ _ _ | exact .inl rfl | omega) | trivial)) | (simp -dsimp only [↓RP, RQ, Nat.reduceMul, reduceIte, reduceCtorEq, Nat.reduceAdd, Nat.reduceEqDiff, Nat.reduceLT, Nat.reduceLeDiff, f0, same_r, rsT, Int.reduceEq, Int.reduceNeg, Int.reduceLT, Int.reduceLE, nsv, rgv, wag, tn2, QW, Try.results10])))
  all_goals try (exfalso; omega)
 have f1 := decide_eq_false (show ¬ (12 : Int) ≤ ((m : Nat) : Int) by omega)
 have hp := pkW_ok (n := n) (by omega) x0 x1 x2
 have hp2 := pkW_ok (n := n) (by omega) y0 y1 y2
 have he2 := ck_sn he (by omega) hp
 have hbd : bdW n (pkW n y0 y1 y2) = 0 := by unfold bdW; rw [if_pos hp2]
 have hr := Nat.mod_lt z.toNat (show 0 < n by omega)
 have ez : z.tmod (n : Int) = (((z.toNat % n) : Nat) : Int) := tm hz.1 n
 (repeat' (first | with_reducible (first | apply splitVC_d <;> intro _ | apply splitVC <;> intro _) | ((with_reducible refine And.intro ?_ ?_); focus (first | exact True.intro | omega | (simp only [InK, ne_eq, and_true, true_and]; omega) | (and_intros <;> first | exact .inr trivial | exact Nat.le_refl _ | exact one1 _ | exact one5 _ _ _ _ _ | exact one3 _ _ _ | exact .inl rfl | omega) | trivial)) | (simp -dsimp only [↓RP, RQ, Nat.reduceMul, reduceIte, reduceCtorEq, Nat.reduceAdd, Nat.reduceEqDiff, Nat.reduceLT, Nat.reduceLeDiff, f0, f1, same_r, rsT, Int.reduceEq, Int.reduceNeg, Int.reduceLT, Int.reduceLE, nsv, rgv, wag, tn2, QW, Try.results10])))
 all_goals try (exfalso; omega)
 refine callVC (c44 n (by omega) (by omega) m w x0 x1 x2 hx0 hx1 hx2) (by (simp -dsimp only [↓RP, RQ, Nat.reduceMul, reduceIte, reduceCtorEq, Nat.reduceAdd, Nat.reduceEqDiff, Nat.reduceLT, Nat.reduceLeDiff, QV, rsv, ints, I, B, wag]); all_goals (try simp [QV, Go.Sx.Sub, Go.Sx.SubL, wf_sub])) (by (simp -dsimp only [↓RP, RQ, Nat.reduceMul, reduceIte, reduceCtorEq, Nat.reduceAdd, Nat.reduceEqDiff, Nat.reduceLT, Nat.reduceLeDiff, QV, rsT, nsv, rgv, I, B, wag]); all_goals (try simp [QV])) ?_
 (repeat' (first | with_reducible (first | apply splitVC_d <;> intro _ | apply splitVC <;> intro _) | ((with_reducible refine And.intro ?_ ?_); focus (first | exact True.intro | omega | (simp only [InK, ne_eq, and_true, true_and]; omega) | (and_intros <;> first | exact .inr trivial | exact Nat.le_refl _ | exact one1 _ | exact one5 _ _ _ _ _ | exact one3 _ _ _ | exact .inl rfl | omega) | trivial)) | (simp -dsimp only [↓RP, RQ, Nat.reduceMul, reduceIte, reduceCtorEq, Nat.reduceAdd, Nat.reduceEqDiff, Nat.reduceLT, Nat.reduceLeDiff, f0, f1, ez, same_r, rsT, Int.reduceEq, Int.reduceNeg, Int.reduceLT, Int.reduceLE, nsv, rgv, wag, tn2, QW, Try.results10])))
 all_goals try (exfalso; omega)
 have h25a := c25 n m w (by omega)
 rw [cn_ok he, he] at h25a
 have h25b := c25 n (m + 1) (snW m w (pkW n x0 x1 x2)) (by omega)
 rw [cn_ok he2, he2] at h25b
 have h34a := c34 n m w (by omega) ((z.toNat % n) : Nat)
 have h34b := c34 n (m + 1) (snW m w (pkW n x0 x1 x2)) (by omega) ((z.toNat % n) : Nat)
 have h32a := c32 n m w (by omega) (pkW n y0 y1 y2)
 have h32b := c32 n (m + 1) (snW m w (pkW n x0 x1 x2)) (by omega) (pkW n y0 y1 y2)
 rw [Int.toNat_natCast] at h32a h32b
 have es := agrs_sn w m n (pkW n x0 x1 x2)
 have hle : ((agrs w m n).filter (pW n (pkW n x0 x1 x2))).length ≤ (agrs w m n).length := List.length_filter_le _ _
 by_cases t1 : (agrs w m n).length = 0
 ·have t2 : (agrs (snW m w (pkW n x0 x1 x2)) (m + 1) n).length = 0 := by rw [es]; omega
  rw [(kd_3 (p := pW n (pkW n y0 y1 y2)) he hbd t1).1] at h32a
  rw [(kd_3 (p := pW n (pkW n y0 y1 y2)) he2 hbd t2).1] at h32b
  rw [pl_3 he hr t1] at h34a
  rw [pl_3 he2 hr t2] at h34b
  rw [t1] at h25a
  rw [t2] at h25b
  have g0 : decide ((0 : Int) < ((0 : Nat) : Int)) = false := rfl
  have g1 : decide (((0 : Nat) : Int) < 0) = false := rfl
  have g2 : decide (((0 : Nat) : Int) < ((0 : Nat) : Int)) = false := rfl
  have g3 : decide (((0 : Nat) : Int) = 0) = true := rfl
  refine callVC (c45 n m w (pkW n x0 x1 x2) (by omega)) (by (simp -dsimp only [↓RP, RQ, Nat.reduceMul, reduceIte, reduceCtorEq, Nat.reduceAdd, Nat.reduceEqDiff, Nat.reduceLT, Nat.reduceLeDiff, QV, rsv, ints, I, B, wag]); all_goals (try simp [QV, Go.Sx.Sub, Go.Sx.SubL, wf_sub])) (by (simp -dsimp only [↓RP, RQ, Nat.reduceMul, reduceIte, reduceCtorEq, Nat.reduceAdd, Nat.reduceEqDiff, Nat.reduceLT, Nat.reduceLeDiff, QV, rsT, nsv, rgv, I, B, wag]); all_goals (try simp [QV])) ?_
  (repeat' (first | with_reducible (first | apply splitVC_d <;> intro _ | apply splitVC <;> intro _) | ((with_reducible refine And.intro ?_ ?_); focus (first | exact True.intro | omega | (simp only [InK, ne_eq, and_true, true_and]; omega) | (and_intros <;> first | exact .inr trivial | exact Nat.le_refl _ | exact one1 _ | exact one5 _ _ _ _ _ | exact one3 _ _ _ | exact .inl rfl | omega) | trivial)) | (simp -dsimp only [↓RP, RQ, Nat.reduceMul, reduceIte, reduceCtorEq, Nat.reduceAdd, Nat.reduceEqDiff, Nat.reduceLT, Nat.reduceLeDiff, same_r, rsT, Int.reduceEq, Int.reduceNeg, Int.reduceLT, Int.reduceLE, nsv, rgv, wag, tn2, QW, Try.results10])))
  all_goals try (exfalso; omega)
  refine callVC (h25a) (by (simp -dsimp only [↓RP, RQ, Nat.reduceMul, reduceIte, reduceCtorEq, Nat.reduceAdd, Nat.reduceEqDiff, Nat.reduceLT, Nat.reduceLeDiff, QV, rsv, ints, I, B, wag]); all_goals (try simp [QV, Go.Sx.Sub, Go.Sx.SubL, wf_sub])) (by (simp -dsimp only [↓RP, RQ, Nat.reduceMul, reduceIte, reduceCtorEq, Nat.reduceAdd, Nat.reduceEqDiff, Nat.reduceLT, Nat.reduceLeDiff, QV, rsT, nsv, rgv, I, B, wag]); all_goals (try simp [QV])) ?_
  (repeat' (first | with_reducible (first | apply splitVC_d <;> intro _ | apply splitVC <;> intro _) | ((with_reducible refine And.intro ?_ ?_); focus (first | exact True.intro | omega | (simp only [InK, ne_eq, and_true, true_and]; omega) | (and_intros <;> first | exact .inr trivial | exact Nat.le_refl _ | exact one1 _ | exact one5 _ _ _ _ _ | exact one3 _ _ _ | exact .inl rfl | omega) | trivial)) | (simp -dsimp only [↓RP, RQ, Nat.reduceMul, reduceIte, reduceCtorEq, Nat.reduceAdd, Nat.reduceEqDiff, Nat.reduceLT, Nat.reduceLeDiff, g0, g1, g2, g3, ez, same_r, rsT, Int.reduceEq, Int.reduceNeg, Int.reduceLT, Int.reduceLE, nsv, rgv, wag, tn2, QW, Try.results10])))
  all_goals try (exfalso; omega)
  refine callVC (h25b) (by (simp -dsimp only [↓RP, RQ, Nat.reduceMul, reduceIte, reduceCtorEq, Nat.reduceAdd, Nat.reduceEqDiff, Nat.reduceLT, Nat.reduceLeDiff, QV, rsv, ints, I, B, wag]); all_goals (try simp [QV, Go.Sx.Sub, Go.Sx.SubL, wf_sub])) (by (simp -dsimp only [↓RP, RQ, Nat.reduceMul, reduceIte, reduceCtorEq, Nat.reduceAdd, Nat.reduceEqDiff, Nat.reduceLT, Nat.reduceLeDiff, QV, rsT, nsv, rgv, I, B, wag]); all_goals (try simp [QV])) ?_
  (repeat' (first | with_reducible (first | apply splitVC_d <;> intro _ | apply splitVC <;> intro _) | ((with_reducible refine And.intro ?_ ?_); focus (first | exact True.intro | omega | (simp only [InK, ne_eq, and_true, true_and]; omega) | (and_intros <;> first | exact .inr trivial | exact Nat.le_refl _ | exact one1 _ | exact one5 _ _ _ _ _ | exact one3 _ _ _ | exact .inl rfl | omega) | trivial)) | (simp -dsimp only [↓RP, RQ, Nat.reduceMul, reduceIte, reduceCtorEq, Nat.reduceAdd, Nat.reduceEqDiff, Nat.reduceLT, Nat.reduceLeDiff, g0, g1, g2, g3, ez, same_r, rsT, Int.reduceEq, Int.reduceNeg, Int.reduceLT, Int.reduceLE, nsv, rgv, wag, tn2, QW, Try.results10])))
  all_goals try (exfalso; omega)
  refine callVC (h34a) (by (simp -dsimp only [↓RP, RQ, Nat.reduceMul, reduceIte, reduceCtorEq, Nat.reduceAdd, Nat.reduceEqDiff, Nat.reduceLT, Nat.reduceLeDiff, QV, rsv, ints, I, B, wag]); all_goals (try simp [QV, Go.Sx.Sub, Go.Sx.SubL, wf_sub])) (by (simp -dsimp only [↓RP, RQ, Nat.reduceMul, reduceIte, reduceCtorEq, Nat.reduceAdd, Nat.reduceEqDiff, Nat.reduceLT, Nat.reduceLeDiff, QV, rsT, nsv, rgv, I, B, wag]); all_goals (try simp [QV])) ?_
  (repeat' (first | with_reducible (first | apply splitVC_d <;> intro _ | apply splitVC <;> intro _) | ((with_reducible refine And.intro ?_ ?_); focus (first | exact True.intro | omega | (simp only [InK, ne_eq, and_true, true_and]; omega) | (and_intros <;> first | exact .inr trivial | exact Nat.le_refl _ | exact one1 _ | exact one5 _ _ _ _ _ | exact one3 _ _ _ | exact .inl rfl | omega) | trivial)) | (simp -dsimp only [↓RP, RQ, Nat.reduceMul, reduceIte, reduceCtorEq, Nat.reduceAdd, Nat.reduceEqDiff, Nat.reduceLT, Nat.reduceLeDiff, g0, g1, g2, g3, ez, same_r, rsT, Int.reduceEq, Int.reduceNeg, Int.reduceLT, Int.reduceLE, nsv, rgv, wag, tn2, QW, Try.results10])))
  all_goals try (exfalso; omega)
  refine callVC (h34b) (by (simp -dsimp only [↓RP, RQ, Nat.reduceMul, reduceIte, reduceCtorEq, Nat.reduceAdd, Nat.reduceEqDiff, Nat.reduceLT, Nat.reduceLeDiff, QV, rsv, ints, I, B, wag]); all_goals (try simp [QV, Go.Sx.Sub, Go.Sx.SubL, wf_sub])) (by (simp -dsimp only [↓RP, RQ, Nat.reduceMul, reduceIte, reduceCtorEq, Nat.reduceAdd, Nat.reduceEqDiff, Nat.reduceLT, Nat.reduceLeDiff, QV, rsT, nsv, rgv, I, B, wag]); all_goals (try simp [QV])) ?_
  (repeat' (first | with_reducible (first | apply splitVC_d <;> intro _ | apply splitVC <;> intro _) | ((with_reducible refine And.intro ?_ ?_); focus (first | exact True.intro | omega | (simp only [InK, ne_eq, and_true, true_and]; omega) | (and_intros <;> first | exact .inr trivial | exact Nat.le_refl _ | exact one1 _ | exact one5 _ _ _ _ _ | exact one3 _ _ _ | exact .inl rfl | omega) | trivial)) | (simp -dsimp only [↓RP, RQ, Nat.reduceMul, reduceIte, reduceCtorEq, Nat.reduceAdd, Nat.reduceEqDiff, Nat.reduceLT, Nat.reduceLeDiff, g0, g1, g2, g3, ez, same_r, rsT, Int.reduceEq, Int.reduceNeg, Int.reduceLT, Int.reduceLE, nsv, rgv, wag, tn2, QW, Try.results10])))
  all_goals try (exfalso; omega)
  refine callVC (c44 n (by omega) (by omega) m w y0 y1 y2 hy0 hy1 hy2) (by (simp -dsimp only [↓RP, RQ, Nat.reduceMul, reduceIte, reduceCtorEq, Nat.reduceAdd, Nat.reduceEqDiff, Nat.reduceLT, Nat.reduceLeDiff, QV, rsv, ints, I, B, wag]); all_goals (try simp [QV, Go.Sx.Sub, Go.Sx.SubL, wf_sub])) (by (simp -dsimp only [↓RP, RQ, Nat.reduceMul, reduceIte, reduceCtorEq, Nat.reduceAdd, Nat.reduceEqDiff, Nat.reduceLT, Nat.reduceLeDiff, QV, rsT, nsv, rgv, I, B, wag]); all_goals (try simp [QV])) ?_
  (repeat' (first | with_reducible (first | apply splitVC_d <;> intro _ | apply splitVC <;> intro _) | ((with_reducible refine And.intro ?_ ?_); focus (first | exact True.intro | omega | (simp only [InK, ne_eq, and_true, true_and]; omega) | (and_intros <;> first | exact .inr trivial | exact Nat.le_refl _ | exact one1 _ | exact one5 _ _ _ _ _ | exact one3 _ _ _ | exact .inl rfl | omega) | trivial)) | (simp -dsimp only [↓RP, RQ, Nat.reduceMul, reduceIte, reduceCtorEq, Nat.reduceAdd, Nat.reduceEqDiff, Nat.reduceLT, Nat.reduceLeDiff, g0, g1, g2, g3, ez, same_r, rsT, Int.reduceEq, Int.reduceNeg, Int.reduceLT, Int.reduceLE, nsv, rgv, wag, tn2, QW, Try.results10])))
  all_goals try (exfalso; omega)
  refine callVC (h32a) (by (simp -dsimp only [↓RP, RQ, Nat.reduceMul, reduceIte, reduceCtorEq, Nat.reduceAdd, Nat.reduceEqDiff, Nat.reduceLT, Nat.reduceLeDiff, QV, rsv, ints, I, B, wag]); all_goals (try simp [QV, Go.Sx.Sub, Go.Sx.SubL, wf_sub])) (by (simp -dsimp only [↓RP, RQ, Nat.reduceMul, reduceIte, reduceCtorEq, Nat.reduceAdd, Nat.reduceEqDiff, Nat.reduceLT, Nat.reduceLeDiff, QV, rsT, nsv, rgv, I, B, wag]); all_goals (try simp [QV])) ?_
  (repeat' (first | with_reducible (first | apply splitVC_d <;> intro _ | apply splitVC <;> intro _) | ((with_reducible refine And.intro ?_ ?_); focus (first | exact True.intro | omega | (simp only [InK, ne_eq, and_true, true_and]; omega) | (and_intros <;> first | exact .inr trivial | exact Nat.le_refl _ | exact one1 _ | exact one5 _ _ _ _ _ | exact one3 _ _ _ | exact .inl rfl | omega) | trivial)) | (simp -dsimp only [↓RP, RQ, Nat.reduceMul, reduceIte, reduceCtorEq, Nat.reduceAdd, Nat.reduceEqDiff, Nat.reduceLT, Nat.reduceLeDiff, g0, g1, g2, g3, ez, same_r, rsT, Int.reduceEq, Int.reduceNeg, Int.reduceLT, Int.reduceLE, nsv, rgv, wag, tn2, QW, Try.results10])))
  all_goals try (exfalso; omega)
  refine callVC (h32b) (by (simp -dsimp only [↓RP, RQ, Nat.reduceMul, reduceIte, reduceCtorEq, Nat.reduceAdd, Nat.reduceEqDiff, Nat.reduceLT, Nat.reduceLeDiff, QV, rsv, ints, I, B, wag]); all_goals (try simp [QV, Go.Sx.Sub, Go.Sx.SubL, wf_sub])) (by (simp -dsimp only [↓RP, RQ, Nat.reduceMul, reduceIte, reduceCtorEq, Nat.reduceAdd, Nat.reduceEqDiff, Nat.reduceLT, Nat.reduceLeDiff, QV, rsT, nsv, rgv, I, B, wag]); all_goals (try simp [QV])) ?_
  (repeat' (first | with_reducible (first | apply splitVC_d <;> intro _ | apply splitVC <;> intro _) | ((with_reducible refine And.intro ?_ ?_); focus (first | exact True.intro | omega | (simp only [InK, ne_eq, and_true, true_and]; omega) | (and_intros <;> first | exact .inr trivial | exact Nat.le_refl _ | exact one1 _ | exact one5 _ _ _ _ _ | exact one3 _ _ _ | exact .inl rfl | omega) | trivial)) | (simp -dsimp only [↓RP, RQ, Nat.reduceMul, reduceIte, reduceCtorEq, Nat.reduceAdd, Nat.reduceEqDiff, Nat.reduceLT, Nat.reduceLeDiff, g0, g1, g2, g3, ez, same_r, rsT, Int.reduceEq, Int.reduceNeg, Int.reduceLT, Int.reduceLE, nsv, rgv, wag, tn2, QW, Try.results10])))
  all_goals try (exfalso; omega)
  refine callVC (c18) (by (simp -dsimp only [↓RP, RQ, Nat.reduceMul, reduceIte, reduceCtorEq, Nat.reduceAdd, Nat.reduceEqDiff, Nat.reduceLT, Nat.reduceLeDiff, QV, rsv, ints, I, B, wag]); all_goals (try simp [QV, Go.Sx.Sub, Go.Sx.SubL, wf_sub])) (by (simp -dsimp only [↓RP, RQ, Nat.reduceMul, reduceIte, reduceCtorEq, Nat.reduceAdd, Nat.reduceEqDiff, Nat.reduceLT, Nat.reduceLeDiff, QV, rsT, nsv, rgv, I, B, wag]); all_goals (try simp [QV])) ?_
  (repeat' (first | with_reducible (first | apply splitVC_d <;> intro _ | apply splitVC <;> intro _) | ((with_reducible refine And.intro ?_ ?_); focus (first | exact True.intro | omega | (simp only [InK, ne_eq, and_true, true_and]; omega) | (and_intros <;> first | exact .inr trivial | exact Nat.le_refl _ | exact one1 _ | exact one5 _ _ _ _ _ | exact one3 _ _ _ | exact .inl rfl | omega) | trivial)) | (simp -dsimp only [↓RP, RQ, Nat.reduceMul, reduceIte, reduceCtorEq, Nat.reduceAdd, Nat.reduceEqDiff, Nat.reduceLT, Nat.reduceLeDiff, g0, g1, g2, g3, ez, same_r, rsT, Int.reduceEq, Int.reduceNeg, Int.reduceLT, Int.reduceLE, nsv, rgv, wag, tn2, QW, Try.results10])))
  all_goals try (exfalso; omega)
 ·rw [(pl_4 he hr t1).2, (pl_4 he hr t1).1] at h34a
  rw [(kd_4 (p := pW n (pkW n y0 y1 y2)) he hbd t1).1, (kd_4 (p := pW n (pkW n y0 y1 y2)) he hbd t1).2] at h32a
  have g0 := decide_eq_true (show (0 : Int) < (((agrs w m n).length : Nat) : Int) by omega)
  by_cases t2 : (agrs (snW m w (pkW n x0 x1 x2)) (m + 1) n).length = 0
  ·rw [(kd_3 (p := pW n (pkW n y0 y1 y2)) he2 hbd t2).1] at h32b
   rw [pl_3 he2 hr t2] at h34b
   rw [t2] at h25b
   have g1 : decide ((0 : Int) < ((0 : Nat) : Int)) = false := rfl
   have g2 : decide (((0 : Nat) : Int) < 0) = false := rfl
   have g3 : decide (((0 : Nat) : Int) = 0) = true := rfl
   have g4 := decide_eq_false (show ¬ (((agrs w m n).length : Nat) : Int) < ((0 : Nat) : Int) by omega)
   generalize (agrs w m n).length = T at *
   refine callVC (c45 n m w (pkW n x0 x1 x2) (by omega)) (by (simp -dsimp only [↓RP, RQ, Nat.reduceMul, reduceIte, reduceCtorEq, Nat.reduceAdd, Nat.reduceEqDiff, Nat.reduceLT, Nat.reduceLeDiff, QV, rsv, ints, I, B, wag]); all_goals (try simp [QV, Go.Sx.Sub, Go.Sx.SubL, wf_sub])) (by (simp -dsimp only [↓RP, RQ, Nat.reduceMul, reduceIte, reduceCtorEq, Nat.reduceAdd, Nat.reduceEqDiff, Nat.reduceLT, Nat.reduceLeDiff, QV, rsT, nsv, rgv, I, B, wag]); all_goals (try simp [QV])) ?_
   (repeat' (first | with_reducible (first | apply splitVC_d <;> intro _ | apply splitVC <;> intro _) | ((with_reducible refine And.intro ?_ ?_); focus (first | exact True.intro | omega | (simp only [InK, ne_eq, and_true, true_and]; omega) | (and_intros <;> first | exact .inr trivial | exact Nat.le_refl _ | exact one1 _ | exact one5 _ _ _ _ _ | exact one3 _ _ _ | exact .inl rfl | omega) | trivial)) | (simp -dsimp only [↓RP, RQ, Nat.reduceMul, reduceIte, reduceCtorEq, Nat.reduceAdd, Nat.reduceEqDiff, Nat.reduceLT, Nat.reduceLeDiff, same_r, rsT, Int.reduceEq, Int.reduceNeg, Int.reduceLT, Int.reduceLE, nsv, rgv, wag, tn2, QW, Try.results10])))
   all_goals try (exfalso; omega)
   refine callVC (h25a) (by (simp -dsimp only [↓RP, RQ, Nat.reduceMul, reduceIte, reduceCtorEq, Nat.reduceAdd, Nat.reduceEqDiff, Nat.reduceLT, Nat.reduceLeDiff, QV, rsv, ints, I, B, wag]); all_goals (try simp [QV, Go.Sx.Sub, Go.Sx.SubL, wf_sub])) (by (simp -dsimp only [↓RP, RQ, Nat.reduceMul, reduceIte, reduceCtorEq, Nat.reduceAdd, Nat.reduceEqDiff, Nat.reduceLT, Nat.reduceLeDiff, QV, rsT, nsv, rgv, I, B, wag]); all_goals (try simp [QV])) ?_
   (repeat' (first | with_reducible (first | apply splitVC_d <;> intro _ | apply splitVC <;> intro _) | ((with_reducible refine And.intro ?_ ?_); focus (first | exact True.intro | omega | (simp only [InK, ne_eq, and_true, true_and]; omega) | (and_intros <;> first | exact .inr trivial | exact Nat.le_refl _ | exact one1 _ | exact one5 _ _ _ _ _ | exact one3 _ _ _ | exact .inl rfl | omega) | trivial)) | (simp -dsimp only [↓RP, RQ, Nat.reduceMul, reduceIte, reduceCtorEq, Nat.reduceAdd, Nat.reduceEqDiff, Nat.reduceLT, Nat.reduceLeDiff, g0, g1, g2, g3, g4, ez, same_r, rsT, Int.reduceEq, Int.reduceNeg, Int.reduceLT, Int.reduceLE, nsv, rgv, wag, tn2, QW, Try.results10])))
   all_goals try (exfalso; omega)
   refine callVC (h25b) (by (simp -dsimp only [↓RP, RQ, Nat.reduceMul, reduceIte, reduceCtorEq, Nat.reduceAdd, Nat.reduceEqDiff, Nat.reduceLT, Nat.reduceLeDiff, QV, rsv, ints, I, B, wag]); all_goals (try simp [QV, Go.Sx.Sub, Go.Sx.SubL, wf_sub])) (by (simp -dsimp only [↓RP, RQ, Nat.reduceMul, reduceIte, reduceCtorEq, Nat.reduceAdd, Nat.reduceEqDiff, Nat.reduceLT, Nat.reduceLeDiff, QV, rsT, nsv, rgv, I, B, wag]); all_goals (try simp [QV])) ?_
   (repeat' (first | with_reducible (first | apply splitVC_d <;> intro _ | apply splitVC <;> intro _) | ((with_reducible refine And.intro ?_ ?_); focus (first | exact True.intro | omega | (simp only [InK, ne_eq, and_true, true_and]; omega) | (and_intros <;> first | exact .inr trivial | exact Nat.le_refl _ | exact one1 _ | exact one5 _ _ _ _ _ | exact one3 _ _ _ | exact .inl rfl | omega) | trivial)) | (simp -dsimp only [↓RP, RQ, Nat.reduceMul, reduceIte, reduceCtorEq, Nat.reduceAdd, Nat.reduceEqDiff, Nat.reduceLT, Nat.reduceLeDiff, g0, g1, g2, g3, g4, ez, same_r, rsT, Int.reduceEq, Int.reduceNeg, Int.reduceLT, Int.reduceLE, nsv, rgv, wag, tn2, QW, Try.results10])))
   all_goals try (exfalso; omega)
   refine callVC (h34a) (by (simp -dsimp only [↓RP, RQ, Nat.reduceMul, reduceIte, reduceCtorEq, Nat.reduceAdd, Nat.reduceEqDiff, Nat.reduceLT, Nat.reduceLeDiff, QV, rsv, ints, I, B, wag]); all_goals (try simp [QV, Go.Sx.Sub, Go.Sx.SubL, wf_sub])) (by (simp -dsimp only [↓RP, RQ, Nat.reduceMul, reduceIte, reduceCtorEq, Nat.reduceAdd, Nat.reduceEqDiff, Nat.reduceLT, Nat.reduceLeDiff, QV, rsT, nsv, rgv, I, B, wag]); all_goals (try simp [QV])) ?_
   (repeat' (first | with_reducible (first | apply splitVC_d <;> intro _ | apply splitVC <;> intro _) | ((with_reducible refine And.intro ?_ ?_); focus (first | exact True.intro | omega | (simp only [InK, ne_eq, and_true, true_and]; omega) | (and_intros <;> first | exact .inr trivial | exact Nat.le_refl _ | exact one1 _ | exact one5 _ _ _ _ _ | exact one3 _ _ _ | exact .inl rfl | omega) | trivial)) | (simp -dsimp only [↓RP, RQ, Nat.reduceMul, reduceIte, reduceCtorEq, Nat.reduceAdd, Nat.reduceEqDiff, Nat.reduceLT, Nat.reduceLeDiff, g0, g1, g2, g3, g4, ez, same_r, rsT, Int.reduceEq, Int.reduceNeg, Int.reduceLT, Int.reduceLE, nsv, rgv, wag, tn2, QW, Try.results10])))
   all_goals try (exfalso; omega)
   refine callVC (h34b) (by (simp -dsimp only [↓RP, RQ, Nat.reduceMul, reduceIte, reduceCtorEq, Nat.reduceAdd, Nat.reduceEqDiff, Nat.reduceLT, Nat.reduceLeDiff, QV, rsv, ints, I, B, wag]); all_goals (try simp [QV, Go.Sx.Sub, Go.Sx.SubL, wf_sub])) (by (simp -dsimp only [↓RP, RQ, Nat.reduceMul, reduceIte, reduceCtorEq, Nat.reduceAdd, Nat.reduceEqDiff, Nat.reduceLT, Nat.reduceLeDiff, QV, rsT, nsv, rgv, I, B, wag]); all_goals (try simp [QV])) ?_
   (repeat' (first | with_reducible (first | apply splitVC_d <;> intro _ | apply splitVC <;> intro _) | ((with_reducible refine And.intro ?_ ?_); focus (first | exact True.intro | omega | (simp only [InK, ne_eq, and_true, true_and]; omega) | (and_intros <;> first | exact .inr trivial | exact Nat.le_refl _ | exact one1 _ | exact one5 _ _ _ _ _ | exact one3 _ _ _ | exact .inl rfl | omega) | trivial)) | (simp -dsimp only [↓RP, RQ, Nat.reduceMul, reduceIte, reduceCtorEq, Nat.reduceAdd, Nat.reduceEqDiff, Nat.reduceLT, Nat.reduceLeDiff, g0, g1, g2, g3, g4, ez, same_r, rsT, Int.reduceEq, Int.reduceNeg, Int.reduceLT, Int.reduceLE, nsv, rgv, wag, tn2, QW, Try.results10])))
   all_goals try (exfalso; omega)
   refine callVC (c44 n (by omega) (by omega) m w y0 y1 y2 hy0 hy1 hy2) (by (simp -dsimp only [↓RP, RQ, Nat.reduceMul, reduceIte, reduceCtorEq, Nat.reduceAdd, Nat.reduceEqDiff, Nat.reduceLT, Nat.reduceLeDiff, QV, rsv, ints, I, B, wag]); all_goals (try simp [QV, Go.Sx.Sub, Go.Sx.SubL, wf_sub])) (by (simp -dsimp only [↓RP, RQ, Nat.reduceMul, reduceIte, reduceCtorEq, Nat.reduceAdd, Nat.reduceEqDiff, Nat.reduceLT, Nat.reduceLeDiff, QV, rsT, nsv, rgv, I, B, wag]); all_goals (try simp [QV])) ?_
   (repeat' (first | with_reducible (first | apply splitVC_d <;> intro _ | apply splitVC <;> intro _) | ((with_reducible refine And.intro ?_ ?_); focus (first | exact True.intro | omega | (simp only [InK, ne_eq, and_true, true_and]; omega) | (and_intros <;> first | exact .inr trivial | exact Nat.le_refl _ | exact one1 _ | exact one5 _ _ _ _ _ | exact one3 _ _ _ | exact .inl rfl | omega) | trivial)) | (simp -dsimp only [↓RP, RQ, Nat.reduceMul, reduceIte, reduceCtorEq, Nat.reduceAdd, Nat.reduceEqDiff, Nat.reduceLT, Nat.reduceLeDiff, g0, g1, g2, g3, g4, ez, same_r, rsT, Int.reduceEq, Int.reduceNeg, Int.reduceLT, Int.reduceLE, nsv, rgv, wag, tn2, QW, Try.results10])))
   all_goals try (exfalso; omega)
   refine callVC (h32a) (by (simp -dsimp only [↓RP, RQ, Nat.reduceMul, reduceIte, reduceCtorEq, Nat.reduceAdd, Nat.reduceEqDiff, Nat.reduceLT, Nat.reduceLeDiff, QV, rsv, ints, I, B, wag]); all_goals (try simp [QV, Go.Sx.Sub, Go.Sx.SubL, wf_sub])) (by (simp -dsimp only [↓RP, RQ, Nat.reduceMul, reduceIte, reduceCtorEq, Nat.reduceAdd, Nat.reduceEqDiff, Nat.reduceLT, Nat.reduceLeDiff, QV, rsT, nsv, rgv, I, B, wag]); all_goals (try simp [QV])) ?_
   (repeat' (first | with_reducible (first | apply splitVC_d <;> intro _ | apply splitVC <;> intro _) | ((with_reducible refine And.intro ?_ ?_); focus (first | exact True.intro | omega | (simp only [InK, ne_eq, and_true, true_and]; omega) | (and_intros <;> first | exact .inr trivial | exact Nat.le_refl _ | exact one1 _ | exact one5 _ _ _ _ _ | exact one3 _ _ _ | exact .inl rfl | omega) | trivial)) | (simp -dsimp only [↓RP, RQ, Nat.reduceMul, reduceIte, reduceCtorEq, Nat.reduceAdd, Nat.reduceEqDiff, Nat.reduceLT, Nat.reduceLeDiff, g0, g1, g2, g3, g4, ez, same_r, rsT, Int.reduceEq, Int.reduceNeg, Int.reduceLT, Int.reduceLE, nsv, rgv, wag, tn2, QW, Try.results10])))
   all_goals try (exfalso; omega)
   refine callVC (h32b) (by (simp -dsimp only [↓RP, RQ, Nat.reduceMul, reduceIte, reduceCtorEq, Nat.reduceAdd, Nat.reduceEqDiff, Nat.reduceLT, Nat.reduceLeDiff, QV, rsv, ints, I, B, wag]); all_goals (try simp [QV, Go.Sx.Sub, Go.Sx.SubL, wf_sub])) (by (simp -dsimp only [↓RP, RQ, Nat.reduceMul, reduceIte, reduceCtorEq, Nat.reduceAdd, Nat.reduceEqDiff, Nat.reduceLT, Nat.reduceLeDiff, QV, rsT, nsv, rgv, I, B, wag]); all_goals (try simp [QV])) ?_
   (repeat' (first | with_reducible (first | apply splitVC_d <;> intro _ | apply splitVC <;> intro _) | ((with_reducible refine And.intro ?_ ?_); focus (first | exact True.intro | omega | (simp only [InK, ne_eq, and_true, true_and]; omega) | (and_intros <;> first | exact .inr trivial | exact Nat.le_refl _ | exact one1 _ | exact one5 _ _ _ _ _ | exact one3 _ _ _ | exact .inl rfl | omega) | trivial)) | (simp -dsimp only [↓RP, RQ, Nat.reduceMul, reduceIte, reduceCtorEq, Nat.reduceAdd, Nat.reduceEqDiff, Nat.reduceLT, Nat.reduceLeDiff, g0, g1, g2, g3, g4, ez, same_r, rsT, Int.reduceEq, Int.reduceNeg, Int.reduceLT, Int.reduceLE, nsv, rgv, wag, tn2, QW, Try.results10])))
   all_goals try (exfalso; omega)
   refine callVC (c18) (by (simp -dsimp only [↓RP, RQ, Nat.reduceMul, reduceIte, reduceCtorEq, Nat.reduceAdd, Nat.reduceEqDiff, Nat.reduceLT, Nat.reduceLeDiff, QV, rsv, ints, I, B, wag]); all_goals (try simp [QV, Go.Sx.Sub, Go.Sx.SubL, wf_sub])) (by (simp -dsimp only [↓RP, RQ, Nat.reduceMul, reduceIte, reduceCtorEq, Nat.reduceAdd, Nat.reduceEqDiff, Nat.reduceLT, Nat.reduceLeDiff, QV, rsT, nsv, rgv, I, B, wag]); all_goals (try simp [QV])) ?_
   (repeat' (first | with_reducible (first | apply splitVC_d <;> intro _ | apply splitVC <;> intro _) | ((with_reducible refine And.intro ?_ ?_); focus (first | exact True.intro | omega | (simp only [InK, ne_eq, and_true, true_and]; omega) | (and_intros <;> first | exact .inr trivial | exact Nat.le_refl _ | exact one1 _ | exact one5 _ _ _ _ _ | exact one3 _ _ _ | exact .inl rfl | omega) | trivial)) | (simp -dsimp only [↓RP, RQ, Nat.reduceMul, reduceIte, reduceCtorEq, Nat.reduceAdd, Nat.reduceEqDiff, Nat.reduceLT, Nat.reduceLeDiff, g0, g1, g2, g3, g4, ez, same_r, rsT, Int.reduceEq, Int.reduceNeg, Int.reduceLT, Int.reduceLE, nsv, rgv, wag, tn2, QW, Try.results10])))
   all_goals try (exfalso; omega)
  ·rw [(pl_4 he2 hr t2).2, (pl_4 he2 hr t2).1] at h34b
   rw [(kd_4 (p := pW n (pkW n y0 y1 y2)) he2 hbd t2).1, (kd_4 (p := pW n (pkW n y0 y1 y2)) he2 hbd t2).2] at h32b
   have hmo := plc_mono (L := agrs w m n) (L2 := agrs (snW m w (pkW n x0 x1 x2)) (m + 1) n) hr (fun t ht => by rw [es] at ht; exact (List.mem_filter.1 ht).1) (fun e => t2 (by rw [e]; rfl))
   have hk := kind_mono (L := agrs w m n) (p := pW n (pkW n x0 x1 x2)) (q := pW n (pkW n y0 y1 y2)) (by rw [← es]; exact t2)
   rw [← es] at hk hle
   have p0 := decide_eq_true hmo.1
   have p1 := decide_eq_true hmo.2
   generalize loP n (agrs w m n) (z.toNat % n) = lo1 at *
   generalize loP n (agrs (snW m w (pkW n x0 x1 x2)) (m + 1) n) (z.toNat % n) = lo2 at *
   generalize hiP n (agrs w m n) (z.toNat % n) = hi1 at *
   generalize hiP n (agrs (snW m w (pkW n x0 x1 x2)) (m + 1) n) (z.toNat % n) = hi2 at *
   generalize kindV ((agrs w m n).filter (pW n (pkW n y0 y1 y2))).length (agrs w m n).length = k1 at *
   generalize kindV ((agrs (snW m w (pkW n x0 x1 x2)) (m + 1) n).filter (pW n (pkW n y0 y1 y2))).length (agrs (snW m w (pkW n x0 x1 x2)) (m + 1) n).length = k2 at *
   generalize (agrs w m n).length = T at *
   generalize (agrs (snW m w (pkW n x0 x1 x2)) (m + 1) n).length = T2 at *
   have g1 := decide_eq_false (show ¬ ((T2 : Nat) : Int) < 0 by omega)
   have g2 := decide_eq_false (show ¬ ((T : Nat) : Int) < ((T2 : Nat) : Int) by omega)
   have g3 := decide_eq_false (show ¬ ((T2 : Nat) : Int) = 0 by omega)
   have g4 := decide_eq_true (show (0 : Int) < ((T2 : Nat) : Int) by omega)
   by_cases k11 : k1 = 1
   ·have g5 := decide_eq_true k11
    refine callVC (c45 n m w (pkW n x0 x1 x2) (by omega)) (by (simp -dsimp only [↓RP, RQ, Nat.reduceMul, reduceIte, reduceCtorEq, Nat.reduceAdd, Nat.reduceEqDiff, Nat.reduceLT, Nat.reduceLeDiff, QV, rsv, ints, I, B, wag]); all_goals (try simp [QV, Go.Sx.Sub, Go.Sx.SubL, wf_sub])) (by (simp -dsimp only [↓RP, RQ, Nat.reduceMul, reduceIte, reduceCtorEq, Nat.reduceAdd, Nat.reduceEqDiff, Nat.reduceLT, Nat.reduceLeDiff, QV, rsT, nsv, rgv, I, B, wag]); all_goals (try simp [QV])) ?_
    (repeat' (first | with_reducible (first | apply splitVC_d <;> intro _ | apply splitVC <;> intro _) | ((with_reducible refine And.intro ?_ ?_); focus (first | exact True.intro | omega | (simp only [InK, ne_eq, and_true, true_and]; omega) | (and_intros <;> first | exact .inr trivial | exact Nat.le_refl _ | exact one1 _ | exact one5 _ _ _ _ _ | exact one3 _ _ _ | exact .inl rfl | omega) | trivial)) | (simp -dsimp only [↓RP, RQ, Nat.reduceMul, reduceIte, reduceCtorEq, Nat.reduceAdd, Nat.reduceEqDiff, Nat.reduceLT, Nat.reduceLeDiff, same_r, rsT, Int.reduceEq, Int.reduceNeg, Int.reduceLT, Int.reduceLE, nsv, rgv, wag, tn2, QW, Try.results10])))
    all_goals try (exfalso; omega)
    refine callVC (h25a) (by (simp -dsimp only [↓RP, RQ, Nat.reduceMul, reduceIte, reduceCtorEq, Nat.reduceAdd, Nat.reduceEqDiff, Nat.reduceLT, Nat.reduceLeDiff, QV, rsv, ints, I, B, wag]); all_goals (try simp [QV, Go.Sx.Sub, Go.Sx.SubL, wf_sub])) (by (simp -dsimp only [↓RP, RQ, Nat.reduceMul, reduceIte, reduceCtorEq, Nat.reduceAdd, Nat.reduceEqDiff, Nat.reduceLT, Nat.reduceLeDiff, QV, rsT, nsv, rgv, I, B, wag]); all_goals (try simp [QV])) ?_
    (repeat' (first | with_reducible (first | apply splitVC_d <;> intro _ | apply splitVC <;> intro _) | ((with_reducible refine And.intro ?_ ?_); focus (first | exact True.intro | omega | (simp only [InK, ne_eq, and_true, true_and]; omega) | (and_intros <;> first | exact .inr trivial | exact Nat.le_refl _ | exact one1 _ | exact one5 _ _ _ _ _ | exact one3 _ _ _ | exact .inl rfl | omega) | trivial)) | (simp -dsimp only [↓RP, RQ, Nat.reduceMul, reduceIte, reduceCtorEq, Nat.reduceAdd, Nat.reduceEqDiff, Nat.reduceLT, Nat.reduceLeDiff, g0, g1, g2, g3, g4, g5, p0, p1, ez, same_r, rsT, Int.reduceEq, Int.reduceNeg, Int.reduceLT, Int.reduceLE, nsv, rgv, wag, tn2, QW, Try.results10])))
    all_goals try (exfalso; omega)
    refine callVC (h25b) (by (simp -dsimp only [↓RP, RQ, Nat.reduceMul, reduceIte, reduceCtorEq, Nat.reduceAdd, Nat.reduceEqDiff, Nat.reduceLT, Nat.reduceLeDiff, QV, rsv, ints, I, B, wag]); all_goals (try simp [QV, Go.Sx.Sub, Go.Sx.SubL, wf_sub])) (by (simp -dsimp only [↓RP, RQ, Nat.reduceMul, reduceIte, reduceCtorEq, Nat.reduceAdd, Nat.reduceEqDiff, Nat.reduceLT, Nat.reduceLeDiff, QV, rsT, nsv, rgv, I, B, wag]); all_goals (try simp [QV])) ?_
    (repeat' (first | with_reducible (first | apply splitVC_d <;> intro _ | apply splitVC <;> intro _) | ((with_reducible refine And.intro ?_ ?_); focus (first | exact True.intro | omega | (simp only [InK, ne_eq, and_true, true_and]; omega) | (and_intros <;> first | exact .inr trivial | exact Nat.le_refl _ | exact one1 _ | exact one5 _ _ _ _ _ | exact one3 _ _ _ | exact .inl rfl | omega) | trivial)) | (simp -dsimp only [↓RP, RQ, Nat.reduceMul, reduceIte, reduceCtorEq, Nat.reduceAdd, Nat.reduceEqDiff, Nat.reduceLT, Nat.reduceLeDiff, g0, g1, g2, g3, g4, g5, p0, p1, ez, same_r, rsT, Int.reduceEq, Int.reduceNeg, Int.reduceLT, Int.reduceLE, nsv, rgv, wag, tn2, QW, Try.results10])))
    all_goals try (exfalso; omega)
    refine callVC (h34a) (by (simp -dsimp only [↓RP, RQ, Nat.reduceMul, reduceIte, reduceCtorEq, Nat.reduceAdd, Nat.reduceEqDiff, Nat.reduceLT, Nat.reduceLeDiff, QV, rsv, ints, I, B, wag]); all_goals (try simp [QV, Go.Sx.Sub, Go.Sx.SubL, wf_sub])) (by (simp -dsimp only [↓RP, RQ, Nat.reduceMul, reduceIte, reduceCtorEq, Nat.reduceAdd, Nat.reduceEqDiff, Nat.reduceLT, Nat.reduceLeDiff, QV, rsT, nsv, rgv, I, B, wag]); all_goals (try simp [QV])) ?_
    (repeat' (first | with_reducible (first | apply splitVC_d <;> intro _ | apply splitVC <;> intro _) | ((with_reducible refine And.intro ?_ ?_); focus (first | exact True.intro | omega | (simp only [InK, ne_eq, and_true, true_and]; omega) | (and_intros <;> first | exact .inr trivial | exact Nat.le_refl _ | exact one1 _ | exact one5 _ _ _ _ _ | exact one3 _ _ _ | exact .inl rfl | omega) | trivial)) | (simp -dsimp only [↓RP, RQ, Nat.reduceMul, reduceIte, reduceCtorEq, Nat.reduceAdd, Nat.reduceEqDiff, Nat.reduceLT, Nat.reduceLeDiff, g0, g1, g2, g3, g4, g5, p0, p1, ez, same_r, rsT, Int.reduceEq, Int.reduceNeg, Int.reduceLT, Int.reduceLE, nsv, rgv, wag, tn2, QW, Try.results10])))
    all_goals try (exfalso; omega)
    refine callVC (h34b) (by (simp -dsimp only [↓RP, RQ, Nat.reduceMul, reduceIte, reduceCtorEq, Nat.reduceAdd, Nat.reduceEqDiff, Nat.reduceLT, Nat.reduceLeDiff, QV, rsv, ints, I, B, wag]); all_goals (try simp [QV, Go.Sx.Sub, Go.Sx.SubL, wf_sub])) (by (simp -dsimp only [↓RP, RQ, Nat.reduceMul, reduceIte, reduceCtorEq, Nat.reduceAdd, Nat.reduceEqDiff, Nat.reduceLT, Nat.reduceLeDiff, QV, rsT, nsv, rgv, I, B, wag]); all_goals (try simp [QV])) ?_
    (repeat' (first | with_reducible (first | apply splitVC_d <;> intro _ | apply splitVC <;> intro _) | ((with_reducible refine And.intro ?_ ?_); focus (first | exact True.intro | omega | (simp only [InK, ne_eq, and_true, true_and]; omega) | (and_intros <;> first | exact .inr trivial | exact Nat.le_refl _ | exact one1 _ | exact one5 _ _ _ _ _ | exact one3 _ _ _ | exact .inl rfl | omega) | trivial)) | (simp -dsimp only [↓RP, RQ, Nat.reduceMul, reduceIte, reduceCtorEq, Nat.reduceAdd, Nat.reduceEqDiff, Nat.reduceLT, Nat.reduceLeDiff, g0, g1, g2, g3, g4, g5, p0, p1, ez, same_r, rsT, Int.reduceEq, Int.reduceNeg, Int.reduceLT, Int.reduceLE, nsv, rgv, wag, tn2, QW, Try.results10])))
    all_goals try (exfalso; omega)
    refine callVC (c44 n (by omega) (by omega) m w y0 y1 y2 hy0 hy1 hy2) (by (simp -dsimp only [↓RP, RQ, Nat.reduceMul, reduceIte, reduceCtorEq, Nat.reduceAdd, Nat.reduceEqDiff, Nat.reduceLT, Nat.reduceLeDiff, QV, rsv, ints, I, B, wag]); all_goals (try simp [QV, Go.Sx.Sub, Go.Sx.SubL, wf_sub])) (by (simp -dsimp only [↓RP, RQ, Nat.reduceMul, reduceIte, reduceCtorEq, Nat.reduceAdd, Nat.reduceEqDiff, Nat.reduceLT, Nat.reduceLeDiff, QV, rsT, nsv, rgv, I, B, wag]); all_goals (try simp [QV])) ?_
    (repeat' (first | with_reducible (first | apply splitVC_d <;> intro _ | apply splitVC <;> intro _) | ((with_reducible refine And.intro ?_ ?_); focus (first | exact True.intro | omega | (simp only [InK, ne_eq, and_true, true_and]; omega) | (and_intros <;> first | exact .inr trivial | exact Nat.le_refl _ | exact one1 _ | exact one5 _ _ _ _ _ | exact one3 _ _ _ | exact .inl rfl | omega) | trivial)) | (simp -dsimp only [↓RP, RQ, Nat.reduceMul, reduceIte, reduceCtorEq, Nat.reduceAdd, Nat.reduceEqDiff, Nat.reduceLT, Nat.reduceLeDiff, g0, g1, g2, g3, g4, g5, p0, p1, ez, same_r, rsT, Int.reduceEq, Int.reduceNeg, Int.reduceLT, Int.reduceLE, nsv, rgv, wag, tn2, QW, Try.results10])))
    all_goals try (exfalso; omega)
    refine callVC (h32a) (by (simp -dsimp only [↓RP, RQ, Nat.reduceMul, reduceIte, reduceCtorEq, Nat.reduceAdd, Nat.reduceEqDiff, Nat.reduceLT, Nat.reduceLeDiff, QV, rsv, ints, I, B, wag]); all_goals (try simp [QV, Go.Sx.Sub, Go.Sx.SubL, wf_sub])) (by (simp -dsimp only [↓RP, RQ, Nat.reduceMul, reduceIte, reduceCtorEq, Nat.reduceAdd, Nat.reduceEqDiff, Nat.reduceLT, Nat.reduceLeDiff, QV, rsT, nsv, rgv, I, B, wag]); all_goals (try simp [QV])) ?_
    (repeat' (first | with_reducible (first | apply splitVC_d <;> intro _ | apply splitVC <;> intro _) | ((with_reducible refine And.intro ?_ ?_); focus (first | exact True.intro | omega | (simp only [InK, ne_eq, and_true, true_and]; omega) | (and_intros <;> first | exact .inr trivial | exact Nat.le_refl _ | exact one1 _ | exact one5 _ _ _ _ _ | exact one3 _ _ _ | exact .inl rfl | omega) | trivial)) | (simp -dsimp only [↓RP, RQ, Nat.reduceMul, reduceIte, reduceCtorEq, Nat.reduceAdd, Nat.reduceEqDiff, Nat.reduceLT, Nat.reduceLeDiff, g0, g1, g2, g3, g4, g5, p0, p1, ez, same_r, rsT, Int.reduceEq, Int.reduceNeg, Int.reduceLT, Int.reduceLE, nsv, rgv, wag, tn2, QW, Try.results10])))
    all_goals try (exfalso; omega)
    refine callVC (h32b) (by (simp -dsimp only [↓RP, RQ, Nat.reduceMul, reduceIte, reduceCtorEq, Nat.reduceAdd, Nat.reduceEqDiff, Nat.reduceLT, Nat.reduceLeDiff, QV, rsv, ints, I, B, wag]); all_goals (try simp [QV, Go.Sx.Sub, Go.Sx.SubL, wf_sub])) (by (simp -dsimp only [↓RP, RQ, Nat.reduceMul, reduceIte, reduceCtorEq, Nat.reduceAdd, Nat.reduceEqDiff, Nat.reduceLT, Nat.reduceLeDiff, QV, rsT, nsv, rgv, I, B, wag]); all_goals (try simp [QV])) ?_
    (repeat' (first | with_reducible (first | apply splitVC_d <;> intro _ | apply splitVC <;> intro _) | ((with_reducible refine And.intro ?_ ?_); focus (first | exact True.intro | omega | (simp only [InK, ne_eq, and_true, true_and]; omega) | (and_intros <;> first | exact .inr trivial | exact Nat.le_refl _ | exact one1 _ | exact one5 _ _ _ _ _ | exact one3 _ _ _ | exact .inl rfl | omega) | trivial)) | (simp -dsimp only [↓RP, RQ, Nat.reduceMul, reduceIte, reduceCtorEq, Nat.reduceAdd, Nat.reduceEqDiff, Nat.reduceLT, Nat.reduceLeDiff, g0, g1, g2, g3, g4, g5, p0, p1, ez, same_r, rsT, Int.reduceEq, Int.reduceNeg, Int.reduceLT, Int.reduceLE, nsv, rgv, wag, tn2, QW, Try.results10])))
    all_goals try (exfalso; omega)
    refine callVC (c18) (by (simp -dsimp only [↓RP, RQ, Nat.reduceMul, reduceIte, reduceCtorEq, Nat.reduceAdd, Nat.reduceEqDiff, Nat.reduceLT, Nat.reduceLeDiff, QV, rsv, ints, I, B, wag]); all_goals (try simp [QV, Go.Sx.Sub, Go.Sx.SubL, wf_sub])) (by (simp -dsimp only [↓RP, RQ, Nat.reduceMul, reduceIte, reduceCtorEq, Nat.reduceAdd, Nat.reduceEqDiff, Nat.reduceLT, Nat.reduceLeDiff, QV, rsT, nsv, rgv, I, B, wag]); all_goals (try simp [QV])) ?_
    (repeat' (first | with_reducible (first | apply splitVC_d <;> intro _ | apply splitVC <;> intro _) | ((with_reducible refine And.intro ?_ ?_); focus (first | exact True.intro | omega | (simp only [InK, ne_eq, and_true, true_and]; omega) | (and_intros <;> first | exact .inr trivial | exact Nat.le_refl _ | exact one1 _ | exact one5 _ _ _ _ _ | exact one3 _ _ _ | exact .inl rfl | omega) | trivial)) | (simp -dsimp only [↓RP, RQ, Nat.reduceMul, reduceIte, reduceCtorEq, Nat.reduceAdd, Nat.reduceEqDiff, Nat.reduceLT, Nat.reduceLeDiff, g0, g1, g2, g3, g4, g5, p0, p1, ez, same_r, rsT, Int.reduceEq, Int.reduceNeg, Int.reduceLT, Int.reduceLE, nsv, rgv, wag, tn2, QW, Try.results10])))
    all_goals try (exfalso; omega)
   ·have g5 := decide_eq_false k11
    have g6 := decide_eq_true (hk.resolve_left k11)
    refine callVC (c45 n m w (pkW n x0 x1 x2) (by omega)) (by (simp -dsimp only [↓RP, RQ, Nat.reduceMul, reduceIte, reduceCtorEq, Nat.reduceAdd, Nat.reduceEqDiff, Nat.reduceLT, Nat.reduceLeDiff, QV, rsv, ints, I, B, wag]); all_goals (try simp [QV, Go.Sx.Sub, Go.Sx.SubL, wf_sub])) (by (simp -dsimp only [↓RP, RQ, Nat.reduceMul, reduceIte, reduceCtorEq, Nat.reduceAdd, Nat.reduceEqDiff, Nat.reduceLT, Nat.reduceLeDiff, QV, rsT, nsv, rgv, I, B, wag]); all_goals (try simp [QV])) ?_
    (repeat' (first | with_reducible (first | apply splitVC_d <;> intro _ | apply splitVC <;> intro _) | ((with_reducible refine And.intro ?_ ?_); focus (first | exact True.intro | omega | (simp only [InK, ne_eq, and_true, true_and]; omega) | (and_intros <;> first | exact .inr trivial | exact Nat.le_refl _ | exact one1 _ | exact one5 _ _ _ _ _ | exact one3 _ _ _ | exact .inl rfl | omega) | trivial)) | (simp -dsimp only [↓RP, RQ, Nat.reduceMul, reduceIte, reduceCtorEq, Nat.reduceAdd, Nat.reduceEqDiff, Nat.reduceLT, Nat.reduceLeDiff, same_r, rsT, Int.reduceEq, Int.reduceNeg, Int.reduceLT, Int.reduceLE, nsv, rgv, wag, tn2, QW, Try.results10])))
    all_goals try (exfalso; omega)
    refine callVC (h25a) (by (simp -dsimp only [↓RP, RQ, Nat.reduceMul, reduceIte, reduceCtorEq, Nat.reduceAdd, Nat.reduceEqDiff, Nat.reduceLT, Nat.reduceLeDiff, QV, rsv, ints, I, B, wag]); all_goals (try simp [QV, Go.Sx.Sub, Go.Sx.SubL, wf_sub])) (by (simp -dsimp only [↓RP, RQ, Nat.reduceMul, reduceIte, reduceCtorEq, Nat.reduceAdd, Nat.reduceEqDiff, Nat.reduceLT, Nat.reduceLeDiff, QV, rsT, nsv, rgv, I, B, wag]); all_goals (try simp [QV])) ?_
    (repeat' (first | with_reducible (first | apply splitVC_d <;> intro _ | apply splitVC <;> intro _) | ((with_reducible refine And.intro ?_ ?_); focus (first | exact True.intro | omega | (simp only [InK, ne_eq, and_true, true_and]; omega) | (and_intros <;> first | exact .inr trivial | exact Nat.le_refl _ | exact one1 _ | exact one5 _ _ _ _ _ | exact one3 _ _ _ | exact .inl rfl | omega) | trivial)) | (simp -dsimp only [↓RP, RQ, Nat.reduceMul, reduceIte, reduceCtorEq, Nat.reduceAdd, Nat.reduceEqDiff, Nat.reduceLT, Nat.reduceLeDiff, g0, g1, g2, g3, g4, g5, g6, p0, p1, ez, same_r, rsT, Int.reduceEq, Int.reduceNeg, Int.reduceLT, Int.reduceLE, nsv, rgv, wag, tn2, QW, Try.results10])))
    all_goals try (exfalso; omega)
    refine callVC (h25b) (by (simp -dsimp only [↓RP, RQ, Nat.reduceMul, reduceIte, reduceCtorEq, Nat.reduceAdd, Nat.reduceEqDiff, Nat.reduceLT, Nat.reduceLeDiff, QV, rsv, ints, I, B, wag]); all_goals (try simp [QV, Go.Sx.Sub, Go.Sx.SubL, wf_sub])) (by (simp -dsimp only [↓RP, RQ, Nat.reduceMul, reduceIte, reduceCtorEq, Nat.reduceAdd, Nat.reduceEqDiff, Nat.reduceLT, Nat.reduceLeDiff, QV, rsT, nsv, rgv, I, B, wag]); all_goals (try simp [QV])) ?_
    (repeat' (first | with_reducible (first | apply splitVC_d <;> intro _ | apply splitVC <;> intro _) | ((with_reducible refine And.intro ?_ ?_); focus (first | exact True.intro | omega | (simp only [InK, ne_eq, and_true, true_and]; omega) | (and_intros <;> first | exact .inr trivial | exact Nat.le_refl _ | exact one1 _ | exact one5 _ _ _ _ _ | exact one3 _ _ _ | exact .inl rfl | omega) | trivial)) | (simp -dsimp only [↓RP, RQ, Nat.reduceMul, reduceIte, reduceCtorEq, Nat.reduceAdd, Nat.reduceEqDiff, Nat.reduceLT, Nat.reduceLeDiff, g0, g1, g2, g3, g4, g5, g6, p0, p1, ez, same_r, rsT, Int.reduceEq, Int.reduceNeg, Int.reduceLT, Int.reduceLE, nsv, rgv, wag, tn2, QW, Try.results10])))
    all_goals try (exfalso; omega)
    refine callVC (h34a) (by (simp -dsimp only [↓RP, RQ, Nat.reduceMul, reduceIte, reduceCtorEq, Nat.reduceAdd, Nat.reduceEqDiff, Nat.reduceLT, Nat.reduceLeDiff, QV, rsv, ints, I, B, wag]); all_goals (try simp [QV, Go.Sx.Sub, Go.Sx.SubL, wf_sub])) (by (simp -dsimp only [↓RP, RQ, Nat.reduceMul, reduceIte, reduceCtorEq, Nat.reduceAdd, Nat.reduceEqDiff, Nat.reduceLT, Nat.reduceLeDiff, QV, rsT, nsv, rgv, I, B, wag]); all_goals (try simp [QV])) ?_
    (repeat' (first | with_reducible (first | apply splitVC_d <;> intro _ | apply splitVC <;> intro _) | ((with_reducible refine And.intro ?_ ?_); focus (first | exact True.intro | omega | (simp only [InK, ne_eq, and_true, true_and]; omega) | (and_intros <;> first | exact .inr trivial | exact Nat.le_refl _ | exact one1 _ | exact one5 _ _ _ _ _ | exact one3 _ _ _ | exact .inl rfl | omega) | trivial)) | (simp -dsimp only [↓RP, RQ, Nat.reduceMul, reduceIte, reduceCtorEq, Nat.reduceAdd, Nat.reduceEqDiff, Nat.reduceLT, Nat.reduceLeDiff, g0, g1, g2, g3, g4, g5, g6, p0, p1, ez, same_r, rsT, Int.reduceEq, Int.reduceNeg, Int.reduceLT, Int.reduceLE, nsv, rgv, wag, tn2, QW, Try.results10])))
    all_goals try (exfalso; omega)
    refine callVC (h34b) (by (simp -dsimp only [↓RP, RQ, Nat.reduceMul, reduceIte, reduceCtorEq, Nat.reduceAdd, Nat.reduceEqDiff, Nat.reduceLT, Nat.reduceLeDiff, QV, rsv, ints, I, B, wag]); all_goals (try simp [QV, Go.Sx.Sub, Go.Sx.SubL, wf_sub])) (by (simp -dsimp only [↓RP, RQ, Nat.reduceMul, reduceIte, reduceCtorEq, Nat.reduceAdd, Nat.reduceEqDiff, Nat.reduceLT, Nat.reduceLeDiff, QV, rsT, nsv, rgv, I, B, wag]); all_goals (try simp [QV])) ?_
    (repeat' (first | with_reducible (first | apply splitVC_d <;> intro _ | apply splitVC <;> intro _) | ((with_reducible refine And.intro ?_ ?_); focus (first | exact True.intro | omega | (simp only [InK, ne_eq, and_true, true_and]; omega) | (and_intros <;> first | exact .inr trivial | exact Nat.le_refl _ | exact one1 _ | exact one5 _ _ _ _ _ | exact one3 _ _ _ | exact .inl rfl | omega) | trivial)) | (simp -dsimp only [↓RP, RQ, Nat.reduceMul, reduceIte, reduceCtorEq, Nat.reduceAdd, Nat.reduceEqDiff, Nat.reduceLT, Nat.reduceLeDiff, g0, g1, g2, g3, g4, g5, g6, p0, p1, ez, same_r, rsT, Int.reduceEq, Int.reduceNeg, Int.reduceLT, Int.reduceLE, nsv, rgv, wag, tn2, QW, Try.results10])))
    all_goals try (exfalso; omega)
    refine callVC (c44 n (by omega) (by omega) m w y0 y1 y2 hy0 hy1 hy2) (by (simp -dsimp only [↓RP, RQ, Nat.reduceMul, reduceIte, reduceCtorEq, Nat.reduceAdd, Nat.reduceEqDiff, Nat.reduceLT, Nat.reduceLeDiff, QV, rsv, ints, I, B, wag]); all_goals (try simp [QV, Go.Sx.Sub, Go.Sx.SubL, wf_sub])) (by (simp -dsimp only [↓RP, RQ, Nat.reduceMul, reduceIte, reduceCtorEq, Nat.reduceAdd, Nat.reduceEqDiff, Nat.reduceLT, Nat.reduceLeDiff, QV, rsT, nsv, rgv, I, B, wag]); all_goals (try simp [QV])) ?_
    (repeat' (first | with_reducible (first | apply splitVC_d <;> intro _ | apply splitVC <;> intro _) | ((with_reducible refine And.intro ?_ ?_); focus (first | exact True.intro | omega | (simp only [InK, ne_eq, and_true, true_and]; omega) | (and_intros <;> first | exact .inr trivial | exact Nat.le_refl _ | exact one1 _ | exact one5 _ _ _ _ _ | exact one3 _ _ _ | exact .inl rfl | omega) | trivial)) | (simp -dsimp only [↓RP, RQ, Nat.reduceMul, reduceIte, reduceCtorEq, Nat.reduceAdd, Nat.reduceEqDiff, Nat.reduceLT, Nat.reduceLeDiff, g0, g1, g2, g3, g4, g5, g6, p0, p1, ez, same_r, rsT, Int.reduceEq, Int.reduceNeg, Int.reduceLT, Int.reduceLE, nsv, rgv, wag, tn2, QW, Try.results10])))
    all_goals try (exfalso; omega)
    refine callVC (h32a) (by (simp -dsimp only [↓RP, RQ, Nat.reduceMul, reduceIte, reduceCtorEq, Nat.reduceAdd, Nat.reduceEqDiff, Nat.reduceLT, Nat.reduceLeDiff, QV, rsv, ints, I, B, wag]); all_goals (try simp [QV, Go.Sx.Sub, Go.Sx.SubL, wf_sub])) (by (simp -dsimp only [↓RP, RQ, Nat.reduceMul, reduceIte, reduceCtorEq, Nat.reduceAdd, Nat.reduceEqDiff, Nat.reduceLT, Nat.reduceLeDiff, QV, rsT, nsv, rgv, I, B, wag]); all_goals (try simp [QV])) ?_
    (repeat' (first | with_reducible (first | apply splitVC_d <;> intro _ | apply splitVC <;> intro _) | ((with_reducible refine And.intro ?_ ?_); focus (first | exact True.intro | omega | (simp only [InK, ne_eq, and_true, true_and]; omega) | (and_intros <;> first | exact .inr trivial | exact Nat.le_refl _ | exact one1 _ | exact one5 _ _ _ _ _ | exact one3 _ _ _ | exact .inl rfl | omega) | trivial)) | (simp -dsimp only [↓RP, RQ, Nat.reduceMul, reduceIte, reduceCtorEq, Nat.reduceAdd, Nat.reduceEqDiff, Nat.reduceLT, Nat.reduceLeDiff, g0, g1, g2, g3, g4, g5, g6, p0, p1, ez, same_r, rsT, Int.reduceEq, Int.reduceNeg, Int.reduceLT, Int.reduceLE, nsv, rgv, wag, tn2, QW, Try.results10])))
    all_goals try (exfalso; omega)
    refine callVC (h32b) (by (simp -dsimp only [↓RP, RQ, Nat.reduceMul, reduceIte, reduceCtorEq, Nat.reduceAdd, Nat.reduceEqDiff, Nat.reduceLT, Nat.reduceLeDiff, QV, rsv, ints, I, B, wag]); all_goals (try simp [QV, Go.Sx.Sub, Go.Sx.SubL, wf_sub])) (by (simp -dsimp only [↓RP, RQ, Nat.reduceMul, reduceIte, reduceCtorEq, Nat.reduceAdd, Nat.reduceEqDiff, Nat.reduceLT, Nat.reduceLeDiff, QV, rsT, nsv, rgv, I, B, wag]); all_goals (try simp [QV])) ?_
    (repeat' (first | with_reducible (first | apply splitVC_d <;> intro _ | apply splitVC <;> intro _) | ((with_reducible refine And.intro ?_ ?_); focus (first | exact True.intro | omega | (simp only [InK, ne_eq, and_true, true_and]; omega) | (and_intros <;> first | exact .inr trivial | exact Nat.le_refl _ | exact one1 _ | exact one5 _ _ _ _ _ | exact one3 _ _ _ | exact .inl rfl | omega) | trivial)) | (simp -dsimp only [↓RP, RQ, Nat.reduceMul, reduceIte, reduceCtorEq, Nat.reduceAdd, Nat.reduceEqDiff, Nat.reduceLT, Nat.reduceLeDiff, g0, g1, g2, g3, g4, g5, g6, p0, p1, ez, same_r, rsT, Int.reduceEq, Int.reduceNeg, Int.reduceLT, Int.reduceLE, nsv, rgv, wag, tn2, QW, Try.results10])))
    all_goals try (exfalso; omega)
    refine callVC (c18) (by (simp -dsimp only [↓RP, RQ, Nat.reduceMul, reduceIte, reduceCtorEq, Nat.reduceAdd, Nat.reduceEqDiff, Nat.reduceLT, Nat.reduceLeDiff, QV, rsv, ints, I, B, wag]); all_goals (try simp [QV, Go.Sx.Sub, Go.Sx.SubL, wf_sub])) (by (simp -dsimp only [↓RP, RQ, Nat.reduceMul, reduceIte, reduceCtorEq, Nat.reduceAdd, Nat.reduceEqDiff, Nat.reduceLT, Nat.reduceLeDiff, QV, rsT, nsv, rgv, I, B, wag]); all_goals (try simp [QV])) ?_
    (repeat' (first | with_reducible (first | apply splitVC_d <;> intro _ | apply splitVC <;> intro _) | ((with_reducible refine And.intro ?_ ?_); focus (first | exact True.intro | omega | (simp only [InK, ne_eq, and_true, true_and]; omega) | (and_intros <;> first | exact .inr trivial | exact Nat.le_refl _ | exact one1 _ | exact one5 _ _ _ _ _ | exact one3 _ _ _ | exact .inl rfl | omega) | trivial)) | (simp -dsimp only [↓RP, RQ, Nat.reduceMul, reduceIte, reduceCtorEq, Nat.reduceAdd, Nat.reduceEqDiff, Nat.reduceLT, Nat.reduceLeDiff, g0, g1, g2, g3, g4, g5, g6, p0, p1, ez, same_r, rsT, Int.reduceEq, Int.reduceNeg, Int.reduceLT, Int.reduceLE, nsv, rgv, wag, tn2, QW, Try.results10])))
    all_goals try (exfalso; omega)
end Go.He
end
