/- A part of the proof. -/
import Derived.Test.YtpdebflfimmnpaaHK
import Derived.Test.YtpdebflfimmnpaaEF
section
set_option linter.unusedSimpArgs false
set_option linter.unusedVariables false
set_option linter.defProp false
set_option maxRecDepth 100000
set_option maxHeartbeats 16000000
namespace Go.He
open Go.Proofs
open Go.Sx
theorem same_r (a : Nat) (u : Nat → Int) : decide (sameI a u a u) = true := decide_eq_true ⟨rfl, fun _ _ => rfl⟩
theorem fnL_le (N : Int) (m : Nat) (w : Nat → Wd) : fnL N m w ≤ 1000000 := by
 unfold fnL
 split
 ·rename_i h; have := ckR_ok h.1; omega
 ·omega
theorem nle20 {m : Nat} (h : ¬ 20 < m) : m ≤ 1000000 := by omega
end Go.He
end
section
set_option linter.unusedSimpArgs false
set_option linter.unusedVariables false
set_option linter.defProp false
set_option maxRecDepth 100000
set_option maxHeartbeats 16000000
namespace Go.He
open Go.Proofs
open Go.Sx
theorem ci_some {n m : Nat} {w : Nat → Wd} (h : ckR n m w = 0) : (ciL n m w).length = shN w m n m := by
 unfold ciL; rw [if_pos h, Int.toNat_natCast]; exact cO_len (ckR_fit h)
theorem ci_e {n m : Nat} {w : Nat → Wd} (h : ckR n m w = 0) : ciE n m w = if shN w m n m = 0 then 11 else 0 := by
 unfold ciE; rw [if_neg (by omega), Int.toNat_natCast, cO_len (ckR_fit h)]
end Go.He
end
section
set_option linter.unusedSimpArgs false
set_option linter.unusedVariables false
set_option linter.defProp false
set_option maxRecDepth 100000
set_option maxHeartbeats 16000000
namespace Go.He
open Go.Proofs
open Go.Sx
theorem c42 (N : Int) (m : Nat) (w : Nat → Wd) : Contract Try.prog 42 [rsv N m w] (B (decide (ckR N m w = 0))) := by
 refine contract_of Try.func42 rfl (by kernel_rfl) follows (by kernel_rfl) _ _ (by rw [Try.ntmps42]; simp) (by simp [OldL, Old, QV, rsv]) ?_
 unfold rsv B
 (repeat' (first | with_reducible (first | apply splitVC_d <;> intro _ | apply splitVC <;> intro _) | ((with_reducible refine And.intro ?_ ?_); focus (first | exact True.intro | omega | (simp only [InK, ne_eq, and_true, true_and]; omega) | (and_intros <;> first | exact .inr trivial | exact Nat.le_refl _ | exact one1 _ | exact one5 _ _ _ _ _ | exact one3 _ _ _ | exact .inl rfl | omega) | trivial)) | (simp -dsimp only [↓RP, RQ, Nat.reduceMul, reduceIte, reduceCtorEq, Nat.reduceAdd, Nat.reduceEqDiff, Nat.reduceLT, Nat.reduceLeDiff, Int.reduceEq, Int.reduceNeg, Int.reduceLT, Int.reduceLE, rsT, QW, Try.results42])))
 refine callVC (c17 N m w) (by (simp -dsimp only [↓RP, RQ, Nat.reduceMul, reduceIte, reduceCtorEq, Nat.reduceAdd, Nat.reduceEqDiff, Nat.reduceLT, Nat.reduceLeDiff, QV, rsv, ints, I, B, wag]); all_goals (try simp [QV, Go.Sx.Sub, Go.Sx.SubL, wf_sub])) (by (simp -dsimp only [↓RP, RQ, Nat.reduceMul, reduceIte, reduceCtorEq, Nat.reduceAdd, Nat.reduceEqDiff, Nat.reduceLT, Nat.reduceLeDiff, QV, rsT, nsv, rgv, I, B, wag]); all_goals (try simp [QV])) ?_
 by_cases h20 : 20 < m
 ·have f0 := decide_eq_true h20
  have hn : ckR N m w ≠ 0 := fun h => by have := (ckR_ok h).2.2.1; omega
  have fe := decide_eq_false hn
  (repeat' (first | with_reducible (first | apply splitVC_d <;> intro _ | apply splitVC <;> intro _) | ((with_reducible refine And.intro ?_ ?_); focus (first | exact True.intro | omega | (simp only [InK, ne_eq, and_true, true_and]; omega) | (and_intros <;> first | exact .inr trivial | exact Nat.le_refl _ | exact one1 _ | exact one5 _ _ _ _ _ | exact one3 _ _ _ | exact .inl rfl | omega) | trivial)) | (simp -dsimp only [↓RP, RQ, Nat.reduceMul, reduceIte, reduceCtorEq, Nat.reduceAdd, Nat.reduceEqDiff, Nat.reduceLT, Nat.reduceLeDiff, f0, fe, Int.reduceEq, Int.reduceNeg, Int.reduceLT, Int.reduceLE, rsT, QW, Try.results42])))
  all_goals try (exfalso; omega)
 ·have f0 := decide_eq_false h20
  (repeat' (first | with_reducible (first | apply splitVC_d <;> intro _ | apply splitVC <;> intro _) | ((with_reducible refine And.intro ?_ ?_); focus (first | exact True.intro | omega | (simp only [InK, ne_eq, and_true, true_and]; omega) | (and_intros <;> first | exact .inr trivial | exact Nat.le_refl _ | exact one1 _ | exact one5 _ _ _ _ _ | exact one3 _ _ _ | exact .inl rfl | omega) | trivial)) | (simp -dsimp only [↓RP, RQ, Nat.reduceMul, reduceIte, reduceCtorEq, Nat.reduceAdd, Nat.reduceEqDiff, Nat.reduceLT, Nat.reduceLeDiff, f0, Int.reduceEq, Int.reduceNeg, Int.reduceLT, Int.reduceLE, rsT, QW, Try.results42])))
  all_goals try (exfalso; omega)
  refine callVC (c20 N m w (nle20 h20)) (by (simp -dsimp only [↓RP, RQ, Nat.reduceMul, reduceIte, reduceCtorEq, Nat.reduceAdd, Nat.reduceEqDiff, Nat.reduceLT, Nat.reduceLeDiff, QV, rsv, ints, I, B, wag]); all_goals (try simp [QV, Go.Sx.Sub, Go.Sx.SubL, wf_sub])) (by (simp -dsimp only [↓RP, RQ, Nat.reduceMul, reduceIte, reduceCtorEq, Nat.reduceAdd, Nat.reduceEqDiff, Nat.reduceLT, Nat.reduceLeDiff, QV, rsT, nsv, rgv, I, B, wag]); all_goals (try simp [QV])) ?_
  (repeat' (first | with_reducible (first | apply splitVC_d <;> intro _ | apply splitVC <;> intro _) | ((with_reducible refine And.intro ?_ ?_); focus (first | exact True.intro | omega | (simp only [InK, ne_eq, and_true, true_and]; omega) | (and_intros <;> first | exact .inr trivial | exact Nat.le_refl _ | exact one1 _ | exact one5 _ _ _ _ _ | exact one3 _ _ _ | exact .inl rfl | omega) | trivial)) | (simp -dsimp only [↓RP, RQ, Nat.reduceMul, reduceIte, reduceCtorEq, Nat.reduceAdd, Nat.reduceEqDiff, Nat.reduceLT, Nat.reduceLeDiff, f0, Int.reduceEq, Int.reduceNeg, Int.reduceLT, Int.reduceLE, rsT, QW, Try.results42])))
  all_goals try (exfalso; omega)
theorem tm {x : Int} (h : 0 ≤ x) (n : Nat) : x.tmod (n : Int) = ((x.toNat % n : Nat) : Int) := by
 obtain ⟨k, rfl⟩ : ∃ k : Nat, x = k := ⟨x.toNat, by omega⟩
 rw [Int.toNat_natCast, Int.tmod_eq_emod_of_nonneg (by omega)]; rfl
end Go.He
end
section
set_option linter.unusedSimpArgs false
set_option linter.unusedVariables false
set_option linter.defProp false
set_option maxRecDepth 100000
set_option maxHeartbeats 16000000
namespace Go.He
open Go.Proofs
open Go.Sx
theorem fin2 : (fins 2).length = 3 := by kernel_rfl
theorem fin3 : (fins 3).length = 13 := by kernel_rfl
theorem fin4 : (fins 4).length = 75 := by kernel_rfl
theorem fin5 : (fins 5).length = 541 := by kernel_rfl
theorem fins_541 {n : Nat} (h2 : 2 ≤ n) (h5 : n ≤ 5) : (fins n).length ≤ 541 := by
 have : n = 2 ∨ n = 3 ∨ n = 4 ∨ n = 5 := by omega
 rcases this with rfl | rfl | rfl | rfl
 ·rw [fin2]; omega
 ·rw [fin3]; omega
 ·rw [fin4]; omega
 ·rw [fin5]; omega
theorem agrs_541 {w : Nat → Wd} {m n : Nat} (h2 : 2 ≤ n) (h5 : n ≤ 5) : (agrs w m n).length ≤ 541 :=
 Nat.le_trans (lst_mono fun t _ h => by unfold okA at h; rw [Bool.and_eq_true] at h; exact h.1) (fins_541 h2 h5)
theorem cn_ok {n m : Nat} {w : Nat → Wd} (h : ckR n m w = 0) : cnV n m w = ((agrs w m n).length : Nat) := by unfold cnV; rw [if_pos h, Int.toNat_natCast]
end Go.He
end
section
set_option linter.unusedSimpArgs false
set_option linter.unusedVariables false
set_option linter.defProp false
set_option maxRecDepth 100000
set_option maxHeartbeats 16000000
namespace Go.He
open Go.Proofs
open Go.Sx
theorem pl_4 {n m R : Nat} {w : Nat → Wd} (h : ckR n m w = 0) (hr : R < n) (h0 : (agrs w m n).length ≠ 0) : plV n m w (R : Nat) = (loP n (agrs w m n) R, hiP n (agrs w m n) R) ∧ kdE n m w (bdP n (R : Nat)) = 0 := by
 have hb : bdP n (R : Nat) = 0 := by unfold bdP; rw [if_pos (by omega)]
 have e := (kd_4 (p := fun _ => true) h hb h0).1
 refine ⟨?_, e⟩
 unfold plV
 rw [if_pos e, Int.toNat_natCast, Int.toNat_natCast]
theorem pl_3 {n m R : Nat} {w : Nat → Wd} (h : ckR n m w = 0) (hr : R < n) (h0 : (agrs w m n).length = 0) : kdE n m w (bdP n (R : Nat)) = 22 := by
 have hb : bdP n (R : Nat) = 0 := by unfold bdP; rw [if_pos (by omega)]
 exact (kd_3 (p := fun _ => true) h hb h0).1
end Go.He
end
section
set_option linter.unusedSimpArgs false
set_option linter.unusedVariables false
set_option linter.defProp false
set_option maxRecDepth 100000
set_option maxHeartbeats 16000000
namespace Go.He
open Go.Proofs
open Go.Sx
end Go.He
end
section
set_option linter.unusedSimpArgs false
set_option linter.unusedVariables false
set_option linter.defProp false
set_option maxRecDepth 100000
set_option maxHeartbeats 16000000
namespace Go.He
open Go.Proofs
open Go.Sx
theorem fin_in {n m : Nat} {w : Nat → Wd} (hw : Fit w m n) {f : Nat → Int} (hf : Fin f n) (ha : agr w m f) : ∃ t, t ∈ agrs w m n ∧ ∀ i, i < n → Dg n t i = f i := by
 obtain ⟨t, t1, t2, t3, t4⟩ := fin_num hw hf ha
 exact ⟨t, mem_lst.2 ⟨t1, okA_iff.2 ⟨t2, t3⟩⟩, t4⟩
end Go.He
end
section
set_option linter.unusedSimpArgs false
set_option linter.unusedVariables false
set_option linter.defProp false
set_option maxRecDepth 100000
set_option maxHeartbeats 16000000
namespace Go.He
open Go.Sx
end Go.He
end
section
set_option linter.unusedSimpArgs false
set_option linter.unusedVariables false
set_option linter.defProp false
set_option maxRecDepth 100000
set_option maxHeartbeats 16000000
namespace Go.He
open Go.Sx
theorem plc_one {n m r : Nat} {w : Nat → Wd} {nm : Nat → Nat} (h : Nam nm n) (hf : Fit w m n) (hr : r < n) {t : Nat} (ht : t ∈ agrs w m n) : ∃ u, u ∈ agrs (renW nm w) m n ∧ Dg n u (nm r) = Dg n t r := by
 have ⟨h1, h2⟩ := okA_iff.1 (mem_lst.1 ht).2
 obtain ⟨u, u1, u2⟩ := fin_in (hf.ren h) (ren_fin h h1) ((ren_agr h hf).2 h2)
 refine ⟨u, u1, ?_⟩
 rw [u2 _ (h.lt r hr)]
 unfold renF
 rw [inv_nm h hr]
theorem plc_two {n m r : Nat} {w : Nat → Wd} {nm : Nat → Nat} (h : Nam nm n) (hf : Fit w m n) (hr : r < n) {u : Nat} (hu : u ∈ agrs (renW nm w) m n) : ∃ t, t ∈ agrs w m n ∧ Dg n t r = Dg n u (nm r) := by
 obtain ⟨t, t1, t2⟩ := plc_one h.inv (hf.ren h) (h.lt r hr) hu
 rw [agrs_congr (ren_back h hf)] at t1
 rw [inv_nm h hr] at t2
 exact ⟨t, t1, t2⟩
theorem plc_ren {n m r : Nat} {w : Nat → Wd} {nm : Nat → Nat} (h : Nam nm n) (hf : Fit w m n) (hr : r < n) (h0 : (agrs w m n).length ≠ 0) : loP n (agrs (renW nm w) m n) (nm r) = loP n (agrs w m n) r ∧ hiP n (agrs (renW nm w) m n) (nm r) = hiP n (agrs w m n) r := by
 have hL : agrs w m n ≠ [] := fun e => h0 (by rw [e]; rfl)
 have hL2 : agrs (renW nm w) m n ≠ [] := fun e => h0 (by rw [← agrs_ren h hf, e]; rfl)
 have p := plc hr hL
 have q := plc (h.lt r hr) hL2
 refine q.uniq ⟨fun u hu => ?_, fun u hu => ?_, ?_, ?_⟩
 ·obtain ⟨t, t1, t2⟩ := plc_two h hf hr hu; rw [← t2]; exact p.le t t1
 ·obtain ⟨t, t1, t2⟩ := plc_two h hf hr hu; rw [← t2]; exact p.ge t t1
 ·obtain ⟨t, t1, t2⟩ := p.le'
  obtain ⟨u, u1, u2⟩ := plc_one h hf hr t1
  exact ⟨u, u1, u2.trans t2⟩
 ·obtain ⟨t, t1, t2⟩ := p.ge'
  obtain ⟨u, u1, u2⟩ := plc_one h hf hr t1
  exact ⟨u, u1, u2.trans t2⟩
def swp (f : Nat → Nat) (a b i : Nat) : Nat := if i = b then f a else if i = a then f b else f i
theorem swp_nam {f : Nat → Nat} {n a b : Nat} (h : Nam f n) (ha : a < n) (hb : b < n) : Nam (swp f a b) n := by
 refine ⟨fun i hi => ?_, fun i j hi hj e => ?_⟩
 ·unfold swp
  by_cases c : i = b
  ·rw [if_pos c]; exact h.lt a ha
  ·rw [if_neg c]
   by_cases d : i = a
   ·rw [if_pos d]; exact h.lt b hb
   ·rw [if_neg d]; exact h.lt i hi
 ·unfold swp at e
  have k1 := h.inj a b ha hb
  have k2 := h.inj a j ha hj
  have k3 := h.inj b j hb hj
  have k4 := h.inj i a hi ha
  have k5 := h.inj i b hi hb
  have k6 := h.inj i j hi hj
  have k7 := h.inj b a hb ha
  repeat' split at e
  all_goals omega
def nmS (p : Nat → Int) (n : Nat) : Nat → Nat → Nat
 | 0 => fun i => i
 | k + 1 => swp (nmS p n k) (k % n) ((p k).toNat % n)
theorem nmS_nam (p : Nat → Int) {n : Nat} (hn : 0 < n) : ∀ k, Nam (nmS p n k) n
 | 0 => ⟨fun _ h => h, fun _ _ _ _ e => e⟩
 | k + 1 => swp_nam (nmS_nam p hn k) (Nat.mod_lt _ hn) (Nat.mod_lt _ hn)
theorem ck_of {n : Int} {m : Nat} {w v : Nat → Wd} (h : ckR n m w = 0) (hv : ∀ i, i < m → okW n (v i)) : ckR n m v = 0 := by
 have ⟨n2, n5, hm, _⟩ := ckR_ok h
 unfold ckR
 rw [if_neg (fun h => h ⟨n2, n5⟩), if_neg (by omega), if_neg]
 rintro ⟨i, hi, hx⟩
 have hx : ¬ okW n (v i) := by simpa using hx
 exact hx (hv i hi)
theorem ck_ren {n m : Nat} {w : Nat → Wd} {nm : Nat → Nat} (h : Nam nm n) (he : ckR n m w = 0) : ckR n m (renW nm w) = 0 :=
 have f := (ckR_fit he).ren h
 ck_of he fun i hi => ⟨f.a i hi, f.b i hi, f.ne i hi, f.k i hi⟩
def yW (w : Nat → Wd) (m k i : Nat) : Wd := w ((i + k) % m)
theorem ck_y {n m : Nat} {w : Nat → Wd} (k : Nat) (he : ckR n m w = 0) : ckR n m (yW w m k) = 0 :=
 ck_of he fun i hi => (ckR_ok he).2.2.2 _ (Nat.mod_lt _ (by omega))
theorem agrs_y {n m : Nat} {w : Nat → Wd} (k : Nat) : agrs (yW w m k) m n = agrs w m n := by
 by_cases hm : 0 < m
 ·exact agrs_rot hm
 ·exact agrs_congr fun i hi => by omega
theorem fn_y {n m : Nat} {w : Nat → Wd} (k : Nat) (he : ckR n m w = 0) : fnL n m (yW w m k) = fnL n m w ∧ fnE n m (yW w m k) = fnE n m w ∧ fnF n m (yW w m k) = fnF n m w := by
 refine ⟨?_, ?_, ?_⟩
 ·unfold fnL; rw [he, ck_y k he, Int.toNat_natCast, agrs_y]
 ·unfold fnE; rw [he, ck_y k he, Int.toNat_natCast, agrs_y]
 ·funext i; unfold fnF; rw [Int.toNat_natCast, agrs_y]
theorem pl_y {n m : Nat} {w : Nat → Wd} {r : Int} (k : Nat) (he : ckR n m w = 0) : plV n m (yW w m k) r = plV n m w r ∧ kdE n m (yW w m k) (bdP n r) = kdE n m w (bdP n r) := by
 have e : kdE n m (yW w m k) (bdP n r) = kdE n m w (bdP n r) := by unfold kdE; rw [he, ck_y k he, Int.toNat_natCast, agrs_y]
 refine ⟨?_, e⟩
 unfold plV; rw [e, Int.toNat_natCast, agrs_y]
theorem pl_ren {n m r : Nat} {w : Nat → Wd} {nm : Nat → Nat} (h : Nam nm n) (he : ckR n m w = 0) (hr : r < n) : plV n m (renW nm w) (nm r : Nat) = plV n m w (r : Nat) ∧ kdE n m (renW nm w) (bdP n (nm r : Nat)) = kdE n m w (bdP n (r : Nat)) := by
 have hf := ckR_fit he
 have ha := agrs_ren h hf
 have h2 := ck_ren h he
 by_cases h0 : (agrs w m n).length = 0
 ·have e1 := pl_3 he hr h0
  have e2 := pl_3 h2 (h.lt r hr) (by omega)
  refine ⟨?_, by rw [e1, e2]⟩
  unfold plV
  rw [e1, e2, if_neg (by decide), if_neg (by decide)]
 ·have e1 := pl_4 he hr h0
  have e2 := pl_4 h2 (h.lt r hr) (by omega)
  have e3 := plc_ren h hf hr h0
  rw [e1.1, e2.1, e1.2, e2.2, e3.1, e3.2]
  exact ⟨rfl, rfl⟩
theorem kdE_0 {n m r : Nat} {w : Nat → Wd} (he : ckR n m w = 0) (hr : r < n) : kdE n m w (bdP n (r : Nat)) = if (agrs w m n).length = 0 then 22 else 0 := by
 by_cases h0 : (agrs w m n).length = 0
 ·rw [pl_3 he hr h0, if_pos h0]
 ·rw [(pl_4 he hr h0).2, if_neg h0]
end Go.He
end
section
set_option linter.unusedSimpArgs false
set_option linter.unusedVariables false
set_option linter.defProp false
set_option maxRecDepth 100000
set_option maxHeartbeats 16000000
namespace Go.He
open Go.Proofs
open Go.Sx
theorem growId (k : Nat) : ∀ (i : Nat), i < k + 1 → (if i < k then SV.val (.int .i64 (i : Nat)) else [SV.val (.int .i64 (k : Nat))][i - k]?.getD SV.top) = SV.val (.int .i64 (i : Nat)) := by
 intro i hi
 by_cases h : i < k
 ·rw [if_pos h]
 ·obtain rfl : i = k := by omega
  rw [if_neg h, Nat.sub_self]; rfl
theorem growId2 (k : Nat) : ∀ (i : Nat), i < k + 1 → k ≤ i → [SV.val (.int .i64 (k : Nat))][i - k]?.getD SV.top = SV.val (.int .i64 (i : Nat)) := by
 intro i hi hk
 obtain rfl : i = k := by omega
 rw [Nat.sub_self]; rfl
theorem growWd (u : Nat → Wd) (k : Nat) (x : Wd) (e : u k = x) : ∀ (i j : Nat), i < k + 1 → j < 3 → (if i < k then wf (u i) j else [SV.val (.int .i64 x.a), SV.val (.int .i64 x.b), SV.val (.int .i64 x.k)][(i - k) * 3 + j]?.getD SV.top) = wf (u i) j := by
 intro i j hi hj
 by_cases h : i < k
 ·rw [if_pos h]
 ·obtain rfl : i = k := by omega
  rw [if_neg h, Nat.sub_self, Nat.zero_mul, Nat.zero_add, e]
  rcases three hj with rfl | rfl | rfl <;> rfl
theorem growRen (nm : Nat → Nat) (w : Nat → Wd) (k : Nat) : ∀ (i j : Nat), i < k + 1 → j < 3 → (if i < k then wf (renW nm w i) j else [SV.val (.int .i64 (nm (w k).a.toNat : Nat)), SV.val (.int .i64 (nm (w k).b.toNat : Nat)), SV.val (.int .i64 (w k).k)][(i - k) * 3 + j]?.getD SV.top) = wf (renW nm w i) j := growWd (renW nm w) k (renW nm w k) rfl
theorem growY (w : Nat → Wd) (m y k : Nat) : ∀ (i j : Nat), i < k + 1 → j < 3 → (if i < k then wf (yW w m y i) j else [SV.val (.int .i64 (w ((k + y) % m)).a), SV.val (.int .i64 (w ((k + y) % m)).b), SV.val (.int .i64 (w ((k + y) % m)).k)][(i - k) * 3 + j]?.getD SV.top) = wf (yW w m y i) j := growWd (yW w m y) k (yW w m y k) rfl
theorem nmS_S (p : Nat → Int) (n k : Nat) : nmS p n (k + 1) = swp (nmS p n k) (k % n) ((p k).toNat % n) := rfl
theorem swp_row (f : Nat → Nat) (a b n : Nat) : ∀ (i : Nat), i < n → (if i = b then SV.val (.int .i64 (f a : Nat)) else if i = a then SV.val (.int .i64 (f b : Nat)) else SV.val (.int .i64 (f i : Nat))) = SV.val (.int .i64 (swp f a b i : Nat)) := by
 intro i _
 unfold swp
 by_cases c : i = b
 ·rw [if_pos c, if_pos c]
 ·rw [if_neg c, if_neg c]
  by_cases d : i = a
  ·rw [if_pos d, if_pos d]
  ·rw [if_neg d, if_neg d]
theorem c14 (N : Int) (m : Nat) (w : Nat → Wd) (x y : Int) (hx : 0 ≤ x ∧ x < 256) (hy : 0 ≤ y ∧ y < 256) (l : Nat) (p : Nat → Int) (hp : ∀ i, i < l → 0 ≤ p i ∧ p i < 256) : Contract Try.prog 14 [rsv N m w, .val (.int .u8 x), .val (.int .u8 y), .arr false false l 1 (fun i _ => .val (.int .u8 (p i)))] (B true) := by
 refine contract_ofF (farL [(13, [(88, 14)]), (18, [(0, 0)]), (19, [(0, 0)])]) Try.func14 rfl (by kernel_rfl) follows (by kernel_rfl) _ _ (by rw [Try.ntmps14]; simp) (by simp [OldL, Old, QV, rsv]) ?_
 unfold rsv B
 (repeat' (first | with_reducible (first | apply splitVC_d <;> intro _ | apply splitVC <;> intro _) | ((with_reducible refine And.intro ?_ ?_); focus (first | exact True.intro | omega | (simp only [InK, ne_eq, and_true, true_and]; omega) | (and_intros <;> first | exact .inr trivial | exact Nat.le_refl _ | exact one1 _ | exact one5 _ _ _ _ _ | exact one3 _ _ _ | exact .inl rfl | omega) | trivial)) | (simp -dsimp only [↓RP, RQ, Nat.reduceMul, reduceIte, reduceCtorEq, Nat.reduceAdd, Nat.reduceEqDiff, Nat.reduceLT, Nat.reduceLeDiff, ↓RW, same_r, rsT, Int.reduceEq, Int.reduceNeg, Int.reduceLT, Int.reduceLE, nsv, rgv, wag, QW, Try.results14])))
 refine callVC (c42 N m w) (by (simp -dsimp only [↓RP, RQ, Nat.reduceMul, reduceIte, reduceCtorEq, Nat.reduceAdd, Nat.reduceEqDiff, Nat.reduceLT, Nat.reduceLeDiff, QV, rsv, ints, I, B, wag]); all_goals (try simp [QV, Go.Sx.Sub, Go.Sx.SubL, wf_sub])) (by (simp -dsimp only [↓RP, RQ, Nat.reduceMul, reduceIte, reduceCtorEq, Nat.reduceAdd, Nat.reduceEqDiff, Nat.reduceLT, Nat.reduceLeDiff, QV, rsT, nsv, rgv, I, B, wag]); all_goals (try simp [QV])) ?_
 by_cases he : ckR N m w = 0
 rotate_left
 ·have f0 := decide_eq_false he
  (repeat' (first | with_reducible (first | apply splitVC_d <;> intro _ | apply splitVC <;> intro _) | ((with_reducible refine And.intro ?_ ?_); focus (first | exact True.intro | omega | (simp only [InK, ne_eq, and_true, true_and]; omega) | (and_intros <;> first | exact .inr trivial | exact Nat.le_refl _ | exact one1 _ | exact one5 _ _ _ _ _ | exact one3 _ _ _ | exact .inl rfl | omega) | trivial)) | (simp -dsimp only [↓RP, RQ, Nat.reduceMul, reduceIte, reduceCtorEq, Nat.reduceAdd, Nat.reduceEqDiff, Nat.reduceLT, Nat.reduceLeDiff, f0, ↓RW, same_r, rsT, Int.reduceEq, Int.reduceNeg, Int.reduceLT, Int.reduceLE, nsv, rgv, wag, QW, Try.results14])))
  all_goals try (exfalso; omega)
  refine callVC (c18) (by (simp -dsimp only [↓RP, RQ, Nat.reduceMul, reduceIte, reduceCtorEq, Nat.reduceAdd, Nat.reduceEqDiff, Nat.reduceLT, Nat.reduceLeDiff, QV, rsv, ints, I, B, wag]); all_goals (try simp [QV, Go.Sx.Sub, Go.Sx.SubL, wf_sub])) (by (simp -dsimp only [↓RP, RQ, Nat.reduceMul, reduceIte, reduceCtorEq, Nat.reduceAdd, Nat.reduceEqDiff, Nat.reduceLT, Nat.reduceLeDiff, QV, rsT, nsv, rgv, I, B, wag]); all_goals (try simp [QV])) ?_
  (repeat' (first | with_reducible (first | apply splitVC_d <;> intro _ | apply splitVC <;> intro _) | ((with_reducible refine And.intro ?_ ?_); focus (first | exact True.intro | omega | (simp only [InK, ne_eq, and_true, true_and]; omega) | (and_intros <;> first | exact .inr trivial | exact Nat.le_refl _ | exact one1 _ | exact one5 _ _ _ _ _ | exact one3 _ _ _ | exact .inl rfl | omega) | trivial)) | (simp -dsimp only [↓RP, RQ, Nat.reduceMul, reduceIte, reduceCtorEq, Nat.reduceAdd, Nat.reduceEqDiff, Nat.reduceLT, Nat.reduceLeDiff, f0, ↓RW, same_r, rsT, Int.reduceEq, Int.reduceNeg, Int.reduceLT, Int.reduceLE, nsv, rgv, wag, QW, Try.results14])))
  all_goals try (exfalso; omega)
 have ⟨n2, n5, m12, _⟩ := ckR_ok he
 obtain ⟨n, rfl⟩ : ∃ n : Nat, N = n := ⟨N.toNat, by omega⟩
 have f0 := decide_eq_true he
 by_cases hl : 20 < l
 ·have f1 := decide_eq_true (show (20 : Int) < ((l : Nat) : Int) by omega)
  (repeat' (first | with_reducible (first | apply splitVC_d <;> intro _ | apply splitVC <;> intro _) | ((with_reducible refine And.intro ?_ ?_); focus (first | exact True.intro | omega | (simp only [InK, ne_eq, and_true, true_and]; omega) | (and_intros <;> first | exact .inr trivial | exact Nat.le_refl _ | exact one1 _ | exact one5 _ _ _ _ _ | exact one3 _ _ _ | exact .inl rfl | omega) | trivial)) | (simp -dsimp only [↓RP, RQ, Nat.reduceMul, reduceIte, reduceCtorEq, Nat.reduceAdd, Nat.reduceEqDiff, Nat.reduceLT, Nat.reduceLeDiff, f0, f1, ↓RW, same_r, rsT, Int.reduceEq, Int.reduceNeg, Int.reduceLT, Int.reduceLE, nsv, rgv, wag, QW, Try.results14])))
  all_goals try (exfalso; omega)
  refine callVC (c18) (by (simp -dsimp only [↓RP, RQ, Nat.reduceMul, reduceIte, reduceCtorEq, Nat.reduceAdd, Nat.reduceEqDiff, Nat.reduceLT, Nat.reduceLeDiff, QV, rsv, ints, I, B, wag]); all_goals (try simp [QV, Go.Sx.Sub, Go.Sx.SubL, wf_sub])) (by (simp -dsimp only [↓RP, RQ, Nat.reduceMul, reduceIte, reduceCtorEq, Nat.reduceAdd, Nat.reduceEqDiff, Nat.reduceLT, Nat.reduceLeDiff, QV, rsT, nsv, rgv, I, B, wag]); all_goals (try simp [QV])) ?_
  (repeat' (first | with_reducible (first | apply splitVC_d <;> intro _ | apply splitVC <;> intro _) | ((with_reducible refine And.intro ?_ ?_); focus (first | exact True.intro | omega | (simp only [InK, ne_eq, and_true, true_and]; omega) | (and_intros <;> first | exact .inr trivial | exact Nat.le_refl _ | exact one1 _ | exact one5 _ _ _ _ _ | exact one3 _ _ _ | exact .inl rfl | omega) | trivial)) | (simp -dsimp only [↓RP, RQ, Nat.reduceMul, reduceIte, reduceCtorEq, Nat.reduceAdd, Nat.reduceEqDiff, Nat.reduceLT, Nat.reduceLeDiff, f0, ↓RW, same_r, rsT, Int.reduceEq, Int.reduceNeg, Int.reduceLT, Int.reduceLE, nsv, rgv, wag, QW, Try.results14])))
  all_goals try (exfalso; omega)
 have f1 := decide_eq_false (show ¬ (20 : Int) < ((l : Nat) : Int) by omega)
 (repeat' (first | with_reducible (first | apply splitVC_d <;> intro _ | apply splitVC <;> intro _) | ((with_reducible refine And.intro ?_ ?_); focus (first | exact True.intro | omega | (simp only [InK, ne_eq, and_true, true_and]; omega) | (and_intros <;> first | exact .inr trivial | exact Nat.le_refl _ | exact one1 _ | exact one5 _ _ _ _ _ | exact one3 _ _ _ | exact .inl rfl | omega) | trivial)) | (simp -dsimp only [↓RP, RQ, Nat.reduceMul, reduceIte, reduceCtorEq, Nat.reduceAdd, Nat.reduceEqDiff, Nat.reduceLT, Nat.reduceLeDiff, f0, f1, ↓RW, same_r, rsT, Int.reduceEq, Int.reduceNeg, Int.reduceLT, Int.reduceLE, nsv, rgv, wag, QW, Try.results14])))
 all_goals try (exfalso; omega)
 refine loop_vc (fun (k : Nat) => k ≤ n) (fun k => ⟨[(1, .val (.int .u8 x)), (2, .val (.int .u8 y)), (3, .arr false false l 1 (fun i _ => .val (.int .u8 (p i)))), (4, .ptr 0 0), (9, .vec 60 k 1), (10, .val (.int .i64 (k : Nat)))], [(60, .rows 3 1 k (fun a _ => .val (.int .i64 (a : Nat)))), (0, .cells 24 [.val (.int .i64 (n : Nat)), .arr false false m 3 (fun i j => wf (w i) j)])], 80⟩) (fun k => n - k) 0 (Nat.zero_le _) (weak [(60, none)] [] ?_ ?_ ?_) fun k hk => ?_
 iterate 3 focus ((simp -dsimp only [↓RP, RQ, Nat.reduceMul, reduceIte, reduceCtorEq, Nat.reduceAdd, Nat.reduceEqDiff, Nat.reduceLT, Nat.reduceLeDiff, QV]); all_goals (try simp [QV]))
 by_cases hlt : k < n
 ·(repeat' (first | with_reducible (first | apply splitVC_d <;> intro _ | apply splitVC <;> intro _) | ((with_reducible refine And.intro ?_ ?_); focus (first | exact True.intro | omega | (simp only [InK, ne_eq, and_true, true_and]; omega) | (and_intros <;> first | exact .inr trivial | exact Nat.le_refl _ | exact one1 _ | exact one5 _ _ _ _ _ | exact one3 _ _ _ | exact .inl rfl | omega) | trivial)) | (simp -dsimp only [↓RP, RQ, Nat.reduceMul, reduceIte, reduceCtorEq, Nat.reduceAdd, Nat.reduceEqDiff, Nat.reduceLT, Nat.reduceLeDiff, ↓RW, same_r, rsT, Int.reduceEq, Int.reduceNeg, Int.reduceLT, Int.reduceLE, nsv, rgv, wag, QW, Try.results14])))
  all_goals try (exfalso; omega)
  refine ⟨k + 1, by omega, by omega, weak [(60, some 87)] [] ?_ ?_ ?_⟩
  ·(simp -dsimp only [↓RP, RQ, Nat.reduceMul, reduceIte, reduceCtorEq, Nat.reduceAdd, Nat.reduceEqDiff, Nat.reduceLT, Nat.reduceLeDiff, QV]); all_goals (try simp [QV])
  ·(simp -dsimp only [↓RP, RQ, Nat.reduceMul, reduceIte, reduceCtorEq, Nat.reduceAdd, Nat.reduceEqDiff, Nat.reduceLT, Nat.reduceLeDiff, QV]); all_goals (try simp [QV])
   first | exact growId k | exact growId2 k
  ·(simp -dsimp only [↓RP, RQ, Nat.reduceMul, reduceIte, reduceCtorEq, Nat.reduceAdd, Nat.reduceEqDiff, Nat.reduceLT, Nat.reduceLeDiff, QV]); all_goals (try simp [QV])
 have hkn : n = k := by omega
 subst hkn
 (repeat' (first | with_reducible (first | apply splitVC_d <;> intro _ | apply splitVC <;> intro _) | ((with_reducible refine And.intro ?_ ?_); focus (first | exact True.intro | omega | (simp only [InK, ne_eq, and_true, true_and]; omega) | (and_intros <;> first | exact .inr trivial | exact Nat.le_refl _ | exact one1 _ | exact one5 _ _ _ _ _ | exact one3 _ _ _ | exact .inl rfl | omega) | trivial)) | (simp -dsimp only [↓RP, RQ, Nat.reduceMul, reduceIte, reduceCtorEq, Nat.reduceAdd, Nat.reduceEqDiff, Nat.reduceLT, Nat.reduceLeDiff, ↓RW, same_r, rsT, Int.reduceEq, Int.reduceNeg, Int.reduceLT, Int.reduceLE, nsv, rgv, wag, QW, Try.results14])))
 all_goals try (exfalso; omega)
 refine loop_vc (fun (k : Nat) => k ≤ l) (fun k => ⟨[(1, .val (.int .u8 x)), (2, .val (.int .u8 y)), (3, .arr false false l 1 (fun i _ => .val (.int .u8 (p i)))), (4, .ptr 0 0), (9, .vec 60 n 1), (11, .val (.int .i64 (k : Nat)))], [(60, .rows 3 1 n (fun a _ => .val (.int .i64 (nmS p n k a : Nat)))), (0, .cells 24 [.val (.int .i64 (n : Nat)), .arr false false m 3 (fun i j => wf (w i) j)])], 80⟩) (fun k => l - k) 0 (Nat.zero_le _) (weak [] [] ?_ ?_ ?_) fun k hk => ?_
 iterate 3 focus ((simp -dsimp only [↓RP, RQ, Nat.reduceMul, reduceIte, reduceCtorEq, Nat.reduceAdd, Nat.reduceEqDiff, Nat.reduceLT, Nat.reduceLeDiff, QV, nmS]); all_goals (try simp [QV, nmS]))
 by_cases hlt : k < l
 ·have e1 : ((k : Nat) : Int).tmod (n : Int) = ((k % n : Nat) : Int) := by have := tm (x := ((k : Nat) : Int)) (by omega) n; rwa [Int.toNat_natCast] at this
  have e2 : (p k).tmod (n : Int) = (((p k).toNat % n : Nat) : Int) := tm (hp k hlt).1 n
  have b1 := Nat.mod_lt k (show 0 < n by omega)
  have b2 := Nat.mod_lt (p k).toNat (show 0 < n by omega)
  have bp := hp k hlt
  (repeat' (first | with_reducible (first | apply splitVC_d <;> intro _ | apply splitVC <;> intro _) | ((with_reducible refine And.intro ?_ ?_); focus (first | exact True.intro | omega | (simp only [InK, ne_eq, and_true, true_and]; omega) | (and_intros <;> first | exact .inr trivial | exact Nat.le_refl _ | exact one1 _ | exact one5 _ _ _ _ _ | exact one3 _ _ _ | exact .inl rfl | omega) | trivial)) | (simp -dsimp only [↓RP, RQ, Nat.reduceMul, reduceIte, reduceCtorEq, Nat.reduceAdd, Nat.reduceEqDiff, Nat.reduceLT, Nat.reduceLeDiff, e1, e2, ↓RW, same_r, rsT, Int.reduceEq, Int.reduceNeg, Int.reduceLT, Int.reduceLE, nsv, rgv, wag, QW, Try.results14])))
  all_goals try (exfalso; omega)
  refine ⟨k + 1, by omega, by omega, weak [] [] ?_ ?_ ?_⟩
  ·(simp -dsimp only [↓RP, RQ, Nat.reduceMul, reduceIte, reduceCtorEq, Nat.reduceAdd, Nat.reduceEqDiff, Nat.reduceLT, Nat.reduceLeDiff, QV]); all_goals (try simp [QV])
  ·(simp -dsimp only [↓RP, RQ, Nat.reduceMul, reduceIte, reduceCtorEq, Nat.reduceAdd, Nat.reduceEqDiff, Nat.reduceLT, Nat.reduceLeDiff, QV]); all_goals (try simp [QV])
   rw [nmS_S]
   exact swp_row _ _ _ n
  ·(simp -dsimp only [↓RP, RQ, Nat.reduceMul, reduceIte, reduceCtorEq, Nat.reduceAdd, Nat.reduceEqDiff, Nat.reduceLT, Nat.reduceLeDiff, QV]); all_goals (try simp [QV])
 have hkl : l = k := by omega
 subst hkl
 have hnm := nmS_nam p (n := n) (by omega) l
 generalize nmS p n l = nm at *
 (repeat' (first | with_reducible (first | apply splitVC_d <;> intro _ | apply splitVC <;> intro _) | ((with_reducible refine And.intro ?_ ?_); focus (first | exact True.intro | omega | (simp only [InK, ne_eq, and_true, true_and]; omega) | (and_intros <;> first | exact .inr trivial | exact Nat.le_refl _ | exact one1 _ | exact one5 _ _ _ _ _ | exact one3 _ _ _ | exact .inl rfl | omega) | trivial)) | (simp -dsimp only [↓RP, RQ, Nat.reduceMul, reduceIte, reduceCtorEq, Nat.reduceAdd, Nat.reduceEqDiff, Nat.reduceLT, Nat.reduceLeDiff, ↓RW, same_r, rsT, Int.reduceEq, Int.reduceNeg, Int.reduceLT, Int.reduceLE, nsv, rgv, wag, QW, Try.results14])))
 all_goals try (exfalso; omega)
 refine loop_vc (fun (k : Nat) => k ≤ m) (fun k => ⟨[(1, .val (.int .u8 x)), (2, .val (.int .u8 y)), (4, .ptr 0 0), (9, .vec 60 n 1), (14, .ptr 50 0), (15, .ptr 51 0), (16, .val (.int .i64 (k : Nat)))], [(50, .cells 24 [.val (.int .i64 (n : Nat)), .vec 61 k 3]), (51, .cells 24 [.val (.int .i64 (n : Nat)), .vec 62 k 3]), (61, .rows 39 3 k (fun a b => wf (renW nm w a) b)), (62, .rows 39 3 k (fun a b => wf (yW w m y.toNat a) b)), (60, .rows 3 1 n (fun a _ => .val (.int .i64 (nm a : Nat)))), (0, .cells 24 [.val (.int .i64 (n : Nat)), .arr false false m 3 (fun i j => wf (w i) j)])], 80⟩) (fun k => m - k) 0 (Nat.zero_le _) (weak [(50, some 90), (51, some 91), (61, none), (62, none)] [] ?_ ?_ ?_) fun k hk => ?_
 iterate 3 focus ((simp -dsimp only [↓RP, RQ, Nat.reduceMul, reduceIte, reduceCtorEq, Nat.reduceAdd, Nat.reduceEqDiff, Nat.reduceLT, Nat.reduceLeDiff, QV]); all_goals (try simp [QV]))
 by_cases hlt : k < m
 ·have hw := ckR_fit he
  have ba := hw.a k hlt
  have bb := hw.b k hlt
  have e1 : (((k : Nat) : Int) + y).tmod (m : Int) = (((k + y.toNat) % m : Nat) : Int) := by
   have := tm (x := (((k + y.toNat : Nat)) : Int)) (by omega) m
   rw [Int.toNat_natCast] at this
   rw [← this]; congr 1; omega
  have b1 := Nat.mod_lt (k + y.toNat) (show 0 < m by omega)
  (repeat' (first | with_reducible (first | apply splitVC_d <;> intro _ | apply splitVC <;> intro _) | ((with_reducible refine And.intro ?_ ?_); focus (first | exact True.intro | omega | (simp only [InK, ne_eq, and_true, true_and]; omega) | (and_intros <;> first | exact .inr trivial | exact Nat.le_refl _ | exact one1 _ | exact one5 _ _ _ _ _ | exact one3 _ _ _ | exact .inl rfl | omega) | trivial)) | (simp -dsimp only [↓RP, RQ, Nat.reduceMul, reduceIte, reduceCtorEq, Nat.reduceAdd, Nat.reduceEqDiff, Nat.reduceLT, Nat.reduceLeDiff, e1, ↓RW, same_r, rsT, Int.reduceEq, Int.reduceNeg, Int.reduceLT, Int.reduceLE, nsv, rgv, wag, QW, Try.results14])))
  all_goals try (exfalso; omega)
  all_goals (refine growRegion follows [] (by kernel_rfl) ?_)
  (repeat' (first | with_reducible (first | apply splitVC_d <;> intro _ | apply splitVC <;> intro _) | ((with_reducible refine And.intro ?_ ?_); focus (first | exact True.intro | omega | (simp only [InK, ne_eq, and_true, true_and]; omega) | (and_intros <;> first | exact .inr trivial | exact Nat.le_refl _ | exact one1 _ | exact one5 _ _ _ _ _ | exact one3 _ _ _ | exact .inl rfl | omega) | trivial)) | (simp -dsimp only [↓RP, RQ, Nat.reduceMul, reduceIte, reduceCtorEq, Nat.reduceAdd, Nat.reduceEqDiff, Nat.reduceLT, Nat.reduceLeDiff, e1, ↓RW, same_r, rsT, Int.reduceEq, Int.reduceNeg, Int.reduceLT, Int.reduceLE, nsv, rgv, wag, QW, Try.results14])))
  all_goals try (exfalso; omega)
  refine callVC (c46 (nm (w k).a.toNat : Nat) (w k).k (nm (w k).b.toNat : Nat)) (by (simp -dsimp only [↓RP, RQ, Nat.reduceMul, reduceIte, reduceCtorEq, Nat.reduceAdd, Nat.reduceEqDiff, Nat.reduceLT, Nat.reduceLeDiff, QV, rsv, ints, I, B, wag]); all_goals (try simp [QV, Go.Sx.Sub, Go.Sx.SubL, wf_sub])) (by (simp -dsimp only [↓RP, RQ, Nat.reduceMul, reduceIte, reduceCtorEq, Nat.reduceAdd, Nat.reduceEqDiff, Nat.reduceLT, Nat.reduceLeDiff, QV, rsT, nsv, rgv, I, B, wag]); all_goals (try simp [QV])) ?_
  (repeat' (first | with_reducible (first | apply splitVC_d <;> intro _ | apply splitVC <;> intro _) | ((with_reducible refine And.intro ?_ ?_); focus (first | exact True.intro | omega | (simp only [InK, ne_eq, and_true, true_and]; omega) | (and_intros <;> first | exact .inr trivial | exact Nat.le_refl _ | exact one1 _ | exact one5 _ _ _ _ _ | exact one3 _ _ _ | exact .inl rfl | omega) | trivial)) | (simp -dsimp only [↓RP, RQ, Nat.reduceMul, reduceIte, reduceCtorEq, Nat.reduceAdd, Nat.reduceEqDiff, Nat.reduceLT, Nat.reduceLeDiff, e1, ↓RW, same_r, rsT, Int.reduceEq, Int.reduceNeg, Int.reduceLT, Int.reduceLE, nsv, rgv, wag, QW, Try.results14])))
  all_goals try (exfalso; omega)
  all_goals (refine growRegion follows [] (by kernel_rfl) ?_)
  (repeat' (first | with_reducible (first | apply splitVC_d <;> intro _ | apply splitVC <;> intro _) | ((with_reducible refine And.intro ?_ ?_); focus (first | exact True.intro | omega | (simp only [InK, ne_eq, and_true, true_and]; omega) | (and_intros <;> first | exact .inr trivial | exact Nat.le_refl _ | exact one1 _ | exact one5 _ _ _ _ _ | exact one3 _ _ _ | exact .inl rfl | omega) | trivial)) | (simp -dsimp only [↓RP, RQ, Nat.reduceMul, reduceIte, reduceCtorEq, Nat.reduceAdd, Nat.reduceEqDiff, Nat.reduceLT, Nat.reduceLeDiff, e1, ↓RW, same_r, rsT, Int.reduceEq, Int.reduceNeg, Int.reduceLT, Int.reduceLE, nsv, rgv, wag, QW, Try.results14])))
  all_goals try (exfalso; omega)
  refine ⟨k + 1, by omega, by omega, weak [(61, some 108), (62, some 126)] [] ?_ ?_ ?_⟩
  ·(simp -dsimp only [↓RP, RQ, Nat.reduceMul, reduceIte, reduceCtorEq, Nat.reduceAdd, Nat.reduceEqDiff, Nat.reduceLT, Nat.reduceLeDiff, QV]); all_goals (try simp [QV])
  ·(simp -dsimp only [↓RP, RQ, Nat.reduceMul, reduceIte, reduceCtorEq, Nat.reduceAdd, Nat.reduceEqDiff, Nat.reduceLT, Nat.reduceLeDiff, QV]); all_goals (try simp [QV])
   all_goals (try (refine ⟨?_, ?_⟩))
   all_goals (intro i j hi hj; first | (rw [growRen nm w k i j hi hj]; simp only [wf_wk]; done) | (rw [growY w m y.toNat k i j hi hj]; simp only [wf_wk]; done))
  ·(simp -dsimp only [↓RP, RQ, Nat.reduceMul, reduceIte, reduceCtorEq, Nat.reduceAdd, Nat.reduceEqDiff, Nat.reduceLT, Nat.reduceLeDiff, QV]); all_goals (try simp [QV])
 have hkm : m = k := by omega
 subst hkm
 have hw := ckR_fit he
 have ex := ck_ren hnm he
 have ey := ck_y y.toNat he
 have e3 : x.tmod (n : Int) = ((x.toNat % n : Nat) : Int) := tm hx.1 n
 have hR := Nat.mod_lt x.toNat (show 0 < n by omega)
 have hRn := hnm.lt (x.toNat % n) hR
 have h25a := c25 n m w (by omega)
 rw [cn_ok he, he] at h25a
 have h25b := c25 n m (renW nm w) (by omega)
 rw [cn_ok ex, ex, agrs_ren hnm hw] at h25b
 have h23a := c23 n m w (by omega)
 have h23b := c23 n m (yW w m y.toNat) (by omega)
 have fy := fn_y y.toNat he
 rw [fy.1, fy.2.1, fy.2.2] at h23b
 have h28a := c28 n m w (by omega)
 have h28b := c28 n m (renW nm w) (by omega)
 have eL : (ciL n m w).length = (ciL n m (renW nm w)).length := by rw [ci_some he, ci_some ex, short_ren hnm hw]
 have eE : ciE n m (renW nm w) = ciE n m w := by rw [ci_e he, ci_e ex, short_ren hnm hw]
 rw [eE] at h28b
 have h27 := c27 (fnL n m w) (fnF n m w) (fnL n m w) (fnF n m w) (fnL_le n m w)
 rw [same_r] at h27
 have hlr : (fnL n m w) ≤ 5 := by unfold fnL; split <;> omega
 have h34a := c34 n m w (by omega) ((x.toNat % n : Nat) : Int)
 have h34b := c34 n m (renW nm w) (by omega) ((nm (x.toNat % n) : Nat) : Int)
 have h34c := c34 n m (yW w m y.toNat) (by omega) ((x.toNat % n : Nat) : Int)
 rw [(pl_ren hnm he hR).1, (pl_ren hnm he hR).2] at h34b
 rw [(pl_y y.toNat he).1, (pl_y y.toNat he).2] at h34c
 have hK := kdE_0 he hR
 have hT := agrs_541 (w := w) (m := m) (n := n) (by omega) (by omega)
 have g0 := decide_eq_true (show (((ciL n m w).length : Nat) : Int) = (((ciL n m (renW nm w)).length : Nat) : Int) by omega)
 generalize ciL n m w = L1 at *
 generalize ciL n m (renW nm w) = L2 at *
 generalize ciE n m w = E at *
 generalize fnL n m w = l0 at *
 generalize fnF n m w = F0 at *
 generalize fnE n m w = E0 at *
 generalize plV n m w ((x.toNat % n : Nat) : Int) = V at *
 generalize kdE n m w (bdP n ((x.toNat % n : Nat) : Int)) = KE at *
 generalize x.toNat % n = R at *
 generalize (agrs w m n).length = T at *
 (repeat' (first | with_reducible (first | apply splitVC_d <;> intro _ | apply splitVC <;> intro _) | ((with_reducible refine And.intro ?_ ?_); focus (first | exact True.intro | omega | (simp only [InK, ne_eq, and_true, true_and]; omega) | (and_intros <;> first | exact .inr trivial | exact Nat.le_refl _ | exact one1 _ | exact one5 _ _ _ _ _ | exact one3 _ _ _ | exact .inl rfl | omega) | trivial)) | (simp -dsimp only [↓RP, RQ, Nat.reduceMul, reduceIte, reduceCtorEq, Nat.reduceAdd, Nat.reduceEqDiff, Nat.reduceLT, Nat.reduceLeDiff, g0, e3, ↓RW, same_r, rsT, Int.reduceEq, Int.reduceNeg, Int.reduceLT, Int.reduceLE, nsv, rgv, wag, QW, Try.results14])))
 all_goals try (exfalso; omega)
 refine callVC (h25a) (by (simp -dsimp only [↓RP, RQ, Nat.reduceMul, reduceIte, reduceCtorEq, Nat.reduceAdd, Nat.reduceEqDiff, Nat.reduceLT, Nat.reduceLeDiff, QV, rsv, ints, I, B, wag]); all_goals (try simp [QV, Go.Sx.Sub, Go.Sx.SubL, wf_sub])) (by (simp -dsimp only [↓RP, RQ, Nat.reduceMul, reduceIte, reduceCtorEq, Nat.reduceAdd, Nat.reduceEqDiff, Nat.reduceLT, Nat.reduceLeDiff, QV, rsT, nsv, rgv, I, B, wag]); all_goals (try simp [QV])) ?_
 (repeat' (first | with_reducible (first | apply splitVC_d <;> intro _ | apply splitVC <;> intro _) | ((with_reducible refine And.intro ?_ ?_); focus (first | exact True.intro | omega | (simp only [InK, ne_eq, and_true, true_and]; omega) | (and_intros <;> first | exact .inr trivial | exact Nat.le_refl _ | exact one1 _ | exact one5 _ _ _ _ _ | exact one3 _ _ _ | exact .inl rfl | omega) | trivial)) | (simp -dsimp only [↓RP, RQ, Nat.reduceMul, reduceIte, reduceCtorEq, Nat.reduceAdd, Nat.reduceEqDiff, Nat.reduceLT, Nat.reduceLeDiff, g0, e3, ↓RW, same_r, rsT, Int.reduceEq, Int.reduceNeg, Int.reduceLT, Int.reduceLE, nsv, rgv, wag, QW, Try.results14])))
 all_goals try (exfalso; omega)
 refine callVC (h25b) (by (simp -dsimp only [↓RP, RQ, Nat.reduceMul, reduceIte, reduceCtorEq, Nat.reduceAdd, Nat.reduceEqDiff, Nat.reduceLT, Nat.reduceLeDiff, QV, rsv, ints, I, B, wag]); all_goals (try simp [QV, Go.Sx.Sub, Go.Sx.SubL, wf_sub])) (by (simp -dsimp only [↓RP, RQ, Nat.reduceMul, reduceIte, reduceCtorEq, Nat.reduceAdd, Nat.reduceEqDiff, Nat.reduceLT, Nat.reduceLeDiff, QV, rsT, nsv, rgv, I, B, wag]); all_goals (try simp [QV])) ?_
 (repeat' (first | with_reducible (first | apply splitVC_d <;> intro _ | apply splitVC <;> intro _) | ((with_reducible refine And.intro ?_ ?_); focus (first | exact True.intro | omega | (simp only [InK, ne_eq, and_true, true_and]; omega) | (and_intros <;> first | exact .inr trivial | exact Nat.le_refl _ | exact one1 _ | exact one5 _ _ _ _ _ | exact one3 _ _ _ | exact .inl rfl | omega) | trivial)) | (simp -dsimp only [↓RP, RQ, Nat.reduceMul, reduceIte, reduceCtorEq, Nat.reduceAdd, Nat.reduceEqDiff, Nat.reduceLT, Nat.reduceLeDiff, g0, e3, ↓RW, same_r, rsT, Int.reduceEq, Int.reduceNeg, Int.reduceLT, Int.reduceLE, nsv, rgv, wag, QW, Try.results14])))
 all_goals try (exfalso; omega)
 refine callVC (h23a) (by (simp -dsimp only [↓RP, RQ, Nat.reduceMul, reduceIte, reduceCtorEq, Nat.reduceAdd, Nat.reduceEqDiff, Nat.reduceLT, Nat.reduceLeDiff, QV, rsv, ints, I, B, wag]); all_goals (try simp [QV, Go.Sx.Sub, Go.Sx.SubL, wf_sub])) (by (simp -dsimp only [↓RP, RQ, Nat.reduceMul, reduceIte, reduceCtorEq, Nat.reduceAdd, Nat.reduceEqDiff, Nat.reduceLT, Nat.reduceLeDiff, QV, rsT, nsv, rgv, I, B, wag]); all_goals (try simp [QV])) ?_
 (repeat' (first | with_reducible (first | apply splitVC_d <;> intro _ | apply splitVC <;> intro _) | ((with_reducible refine And.intro ?_ ?_); focus (first | exact True.intro | omega | (simp only [InK, ne_eq, and_true, true_and]; omega) | (and_intros <;> first | exact .inr trivial | exact Nat.le_refl _ | exact one1 _ | exact one5 _ _ _ _ _ | exact one3 _ _ _ | exact .inl rfl | omega) | trivial)) | (simp -dsimp only [↓RP, RQ, Nat.reduceMul, reduceIte, reduceCtorEq, Nat.reduceAdd, Nat.reduceEqDiff, Nat.reduceLT, Nat.reduceLeDiff, g0, e3, ↓RW, same_r, rsT, Int.reduceEq, Int.reduceNeg, Int.reduceLT, Int.reduceLE, nsv, rgv, wag, QW, Try.results14])))
 all_goals try (exfalso; omega)
 refine callVC (h23b) (by (simp -dsimp only [↓RP, RQ, Nat.reduceMul, reduceIte, reduceCtorEq, Nat.reduceAdd, Nat.reduceEqDiff, Nat.reduceLT, Nat.reduceLeDiff, QV, rsv, ints, I, B, wag]); all_goals (try simp [QV, Go.Sx.Sub, Go.Sx.SubL, wf_sub])) (by (simp -dsimp only [↓RP, RQ, Nat.reduceMul, reduceIte, reduceCtorEq, Nat.reduceAdd, Nat.reduceEqDiff, Nat.reduceLT, Nat.reduceLeDiff, QV, rsT, nsv, rgv, I, B, wag]); all_goals (try simp [QV])) ?_
 (repeat' (first | with_reducible (first | apply splitVC_d <;> intro _ | apply splitVC <;> intro _) | ((with_reducible refine And.intro ?_ ?_); focus (first | exact True.intro | omega | (simp only [InK, ne_eq, and_true, true_and]; omega) | (and_intros <;> first | exact .inr trivial | exact Nat.le_refl _ | exact one1 _ | exact one5 _ _ _ _ _ | exact one3 _ _ _ | exact .inl rfl | omega) | trivial)) | (simp -dsimp only [↓RP, RQ, Nat.reduceMul, reduceIte, reduceCtorEq, Nat.reduceAdd, Nat.reduceEqDiff, Nat.reduceLT, Nat.reduceLeDiff, g0, e3, ↓RW, same_r, rsT, Int.reduceEq, Int.reduceNeg, Int.reduceLT, Int.reduceLE, nsv, rgv, wag, QW, Try.results14])))
 all_goals try (exfalso; omega)
 refine callVC (h28a) (by (simp -dsimp only [↓RP, RQ, Nat.reduceMul, reduceIte, reduceCtorEq, Nat.reduceAdd, Nat.reduceEqDiff, Nat.reduceLT, Nat.reduceLeDiff, QV, rsv, ints, I, B, wag]); all_goals (try simp [QV, Go.Sx.Sub, Go.Sx.SubL, wf_sub])) (by (simp -dsimp only [↓RP, RQ, Nat.reduceMul, reduceIte, reduceCtorEq, Nat.reduceAdd, Nat.reduceEqDiff, Nat.reduceLT, Nat.reduceLeDiff, QV, rsT, nsv, rgv, I, B, wag]); all_goals (try simp [QV])) ?_
 (repeat' (first | with_reducible (first | apply splitVC_d <;> intro _ | apply splitVC <;> intro _) | ((with_reducible refine And.intro ?_ ?_); focus (first | exact True.intro | omega | (simp only [InK, ne_eq, and_true, true_and]; omega) | (and_intros <;> first | exact .inr trivial | exact Nat.le_refl _ | exact one1 _ | exact one5 _ _ _ _ _ | exact one3 _ _ _ | exact .inl rfl | omega) | trivial)) | (simp -dsimp only [↓RP, RQ, Nat.reduceMul, reduceIte, reduceCtorEq, Nat.reduceAdd, Nat.reduceEqDiff, Nat.reduceLT, Nat.reduceLeDiff, g0, e3, ↓RW, same_r, rsT, Int.reduceEq, Int.reduceNeg, Int.reduceLT, Int.reduceLE, nsv, rgv, wag, QW, Try.results14])))
 all_goals try (exfalso; omega)
 refine callVC (h28b) (by (simp -dsimp only [↓RP, RQ, Nat.reduceMul, reduceIte, reduceCtorEq, Nat.reduceAdd, Nat.reduceEqDiff, Nat.reduceLT, Nat.reduceLeDiff, QV, rsv, ints, I, B, wag]); all_goals (try simp [QV, Go.Sx.Sub, Go.Sx.SubL, wf_sub])) (by (simp -dsimp only [↓RP, RQ, Nat.reduceMul, reduceIte, reduceCtorEq, Nat.reduceAdd, Nat.reduceEqDiff, Nat.reduceLT, Nat.reduceLeDiff, QV, rsT, nsv, rgv, I, B, wag]); all_goals (try simp [QV])) ?_
 (repeat' (first | with_reducible (first | apply splitVC_d <;> intro _ | apply splitVC <;> intro _) | ((with_reducible refine And.intro ?_ ?_); focus (first | exact True.intro | omega | (simp only [InK, ne_eq, and_true, true_and]; omega) | (and_intros <;> first | exact .inr trivial | exact Nat.le_refl _ | exact one1 _ | exact one5 _ _ _ _ _ | exact one3 _ _ _ | exact .inl rfl | omega) | trivial)) | (simp -dsimp only [↓RP, RQ, Nat.reduceMul, reduceIte, reduceCtorEq, Nat.reduceAdd, Nat.reduceEqDiff, Nat.reduceLT, Nat.reduceLeDiff, g0, e3, ↓RW, same_r, rsT, Int.reduceEq, Int.reduceNeg, Int.reduceLT, Int.reduceLE, nsv, rgv, wag, QW, Try.results14])))
 all_goals try (exfalso; omega)
 refine callVC (h27) (by (simp -dsimp only [↓RP, RQ, Nat.reduceMul, reduceIte, reduceCtorEq, Nat.reduceAdd, Nat.reduceEqDiff, Nat.reduceLT, Nat.reduceLeDiff, QV, rsv, ints, I, B, wag]); all_goals (try simp [QV, Go.Sx.Sub, Go.Sx.SubL, wf_sub])) (by (simp -dsimp only [↓RP, RQ, Nat.reduceMul, reduceIte, reduceCtorEq, Nat.reduceAdd, Nat.reduceEqDiff, Nat.reduceLT, Nat.reduceLeDiff, QV, rsT, nsv, rgv, I, B, wag]); all_goals (try simp [QV])) ?_
 (repeat' (first | with_reducible (first | apply splitVC_d <;> intro _ | apply splitVC <;> intro _) | ((with_reducible refine And.intro ?_ ?_); focus (first | exact True.intro | omega | (simp only [InK, ne_eq, and_true, true_and]; omega) | (and_intros <;> first | exact .inr trivial | exact Nat.le_refl _ | exact one1 _ | exact one5 _ _ _ _ _ | exact one3 _ _ _ | exact .inl rfl | omega) | trivial)) | (simp -dsimp only [↓RP, RQ, Nat.reduceMul, reduceIte, reduceCtorEq, Nat.reduceAdd, Nat.reduceEqDiff, Nat.reduceLT, Nat.reduceLeDiff, g0, e3, ↓RW, same_r, rsT, Int.reduceEq, Int.reduceNeg, Int.reduceLT, Int.reduceLE, nsv, rgv, wag, QW, Try.results14])))
 all_goals try (exfalso; omega)
 by_cases t1 : T = 0
 ·rw [if_pos t1] at hK
  subst hK
  subst t1
  have g1 : decide ((0 : Int) < ((0 : Nat) : Int)) = false := rfl
  refine callVC (h34a) (by (simp -dsimp only [↓RP, RQ, Nat.reduceMul, reduceIte, reduceCtorEq, Nat.reduceAdd, Nat.reduceEqDiff, Nat.reduceLT, Nat.reduceLeDiff, QV, rsv, ints, I, B, wag]); all_goals (try simp [QV, Go.Sx.Sub, Go.Sx.SubL, wf_sub])) (by (simp -dsimp only [↓RP, RQ, Nat.reduceMul, reduceIte, reduceCtorEq, Nat.reduceAdd, Nat.reduceEqDiff, Nat.reduceLT, Nat.reduceLeDiff, QV, rsT, nsv, rgv, I, B, wag]); all_goals (try simp [QV])) ?_
  (repeat' (first | with_reducible (first | apply splitVC_d <;> intro _ | apply splitVC <;> intro _) | ((with_reducible refine And.intro ?_ ?_); focus (first | exact True.intro | omega | (simp only [InK, ne_eq, and_true, true_and]; omega) | (and_intros <;> first | exact .inr trivial | exact Nat.le_refl _ | exact one1 _ | exact one5 _ _ _ _ _ | exact one3 _ _ _ | exact .inl rfl | omega) | trivial)) | (simp -dsimp only [↓RP, RQ, Nat.reduceMul, reduceIte, reduceCtorEq, Nat.reduceAdd, Nat.reduceEqDiff, Nat.reduceLT, Nat.reduceLeDiff, g0, e3, g1, ↓RW, same_r, rsT, Int.reduceEq, Int.reduceNeg, Int.reduceLT, Int.reduceLE, nsv, rgv, wag, QW, Try.results14])))
  all_goals try (exfalso; omega)
  refine callVC (h34b) (by (simp -dsimp only [↓RP, RQ, Nat.reduceMul, reduceIte, reduceCtorEq, Nat.reduceAdd, Nat.reduceEqDiff, Nat.reduceLT, Nat.reduceLeDiff, QV, rsv, ints, I, B, wag]); all_goals (try simp [QV, Go.Sx.Sub, Go.Sx.SubL, wf_sub])) (by (simp -dsimp only [↓RP, RQ, Nat.reduceMul, reduceIte, reduceCtorEq, Nat.reduceAdd, Nat.reduceEqDiff, Nat.reduceLT, Nat.reduceLeDiff, QV, rsT, nsv, rgv, I, B, wag]); all_goals (try simp [QV])) ?_
  (repeat' (first | with_reducible (first | apply splitVC_d <;> intro _ | apply splitVC <;> intro _) | ((with_reducible refine And.intro ?_ ?_); focus (first | exact True.intro | omega | (simp only [InK, ne_eq, and_true, true_and]; omega) | (and_intros <;> first | exact .inr trivial | exact Nat.le_refl _ | exact one1 _ | exact one5 _ _ _ _ _ | exact one3 _ _ _ | exact .inl rfl | omega) | trivial)) | (simp -dsimp only [↓RP, RQ, Nat.reduceMul, reduceIte, reduceCtorEq, Nat.reduceAdd, Nat.reduceEqDiff, Nat.reduceLT, Nat.reduceLeDiff, g0, e3, g1, ↓RW, same_r, rsT, Int.reduceEq, Int.reduceNeg, Int.reduceLT, Int.reduceLE, nsv, rgv, wag, QW, Try.results14])))
  all_goals try (exfalso; omega)
  refine callVC (h34c) (by (simp -dsimp only [↓RP, RQ, Nat.reduceMul, reduceIte, reduceCtorEq, Nat.reduceAdd, Nat.reduceEqDiff, Nat.reduceLT, Nat.reduceLeDiff, QV, rsv, ints, I, B, wag]); all_goals (try simp [QV, Go.Sx.Sub, Go.Sx.SubL, wf_sub])) (by (simp -dsimp only [↓RP, RQ, Nat.reduceMul, reduceIte, reduceCtorEq, Nat.reduceAdd, Nat.reduceEqDiff, Nat.reduceLT, Nat.reduceLeDiff, QV, rsT, nsv, rgv, I, B, wag]); all_goals (try simp [QV])) ?_
  (repeat' (first | with_reducible (first | apply splitVC_d <;> intro _ | apply splitVC <;> intro _) | ((with_reducible refine And.intro ?_ ?_); focus (first | exact True.intro | omega | (simp only [InK, ne_eq, and_true, true_and]; omega) | (and_intros <;> first | exact .inr trivial | exact Nat.le_refl _ | exact one1 _ | exact one5 _ _ _ _ _ | exact one3 _ _ _ | exact .inl rfl | omega) | trivial)) | (simp -dsimp only [↓RP, RQ, Nat.reduceMul, reduceIte, reduceCtorEq, Nat.reduceAdd, Nat.reduceEqDiff, Nat.reduceLT, Nat.reduceLeDiff, g0, e3, g1, ↓RW, same_r, rsT, Int.reduceEq, Int.reduceNeg, Int.reduceLT, Int.reduceLE, nsv, rgv, wag, QW, Try.results14])))
  all_goals try (exfalso; omega)
  refine callVC (c18) (by (simp -dsimp only [↓RP, RQ, Nat.reduceMul, reduceIte, reduceCtorEq, Nat.reduceAdd, Nat.reduceEqDiff, Nat.reduceLT, Nat.reduceLeDiff, QV, rsv, ints, I, B, wag]); all_goals (try simp [QV, Go.Sx.Sub, Go.Sx.SubL, wf_sub])) (by (simp -dsimp only [↓RP, RQ, Nat.reduceMul, reduceIte, reduceCtorEq, Nat.reduceAdd, Nat.reduceEqDiff, Nat.reduceLT, Nat.reduceLeDiff, QV, rsT, nsv, rgv, I, B, wag]); all_goals (try simp [QV])) ?_
  (repeat' (first | with_reducible (first | apply splitVC_d <;> intro _ | apply splitVC <;> intro _) | ((with_reducible refine And.intro ?_ ?_); focus (first | exact True.intro | omega | (simp only [InK, ne_eq, and_true, true_and]; omega) | (and_intros <;> first | exact .inr trivial | exact Nat.le_refl _ | exact one1 _ | exact one5 _ _ _ _ _ | exact one3 _ _ _ | exact .inl rfl | omega) | trivial)) | (simp -dsimp only [↓RP, RQ, Nat.reduceMul, reduceIte, reduceCtorEq, Nat.reduceAdd, Nat.reduceEqDiff, Nat.reduceLT, Nat.reduceLeDiff, g0, e3, g1, ↓RW, same_r, rsT, Int.reduceEq, Int.reduceNeg, Int.reduceLT, Int.reduceLE, nsv, rgv, wag, QW, Try.results14])))
  all_goals try (exfalso; omega)
 ·rw [if_neg t1] at hK
  subst hK
  have g1 := decide_eq_true (show (0 : Int) < ((T : Nat) : Int) by omega)
  refine callVC (h34a) (by (simp -dsimp only [↓RP, RQ, Nat.reduceMul, reduceIte, reduceCtorEq, Nat.reduceAdd, Nat.reduceEqDiff, Nat.reduceLT, Nat.reduceLeDiff, QV, rsv, ints, I, B, wag]); all_goals (try simp [QV, Go.Sx.Sub, Go.Sx.SubL, wf_sub])) (by (simp -dsimp only [↓RP, RQ, Nat.reduceMul, reduceIte, reduceCtorEq, Nat.reduceAdd, Nat.reduceEqDiff, Nat.reduceLT, Nat.reduceLeDiff, QV, rsT, nsv, rgv, I, B, wag]); all_goals (try simp [QV])) ?_
  (repeat' (first | with_reducible (first | apply splitVC_d <;> intro _ | apply splitVC <;> intro _) | ((with_reducible refine And.intro ?_ ?_); focus (first | exact True.intro | omega | (simp only [InK, ne_eq, and_true, true_and]; omega) | (and_intros <;> first | exact .inr trivial | exact Nat.le_refl _ | exact one1 _ | exact one5 _ _ _ _ _ | exact one3 _ _ _ | exact .inl rfl | omega) | trivial)) | (simp -dsimp only [↓RP, RQ, Nat.reduceMul, reduceIte, reduceCtorEq, Nat.reduceAdd, Nat.reduceEqDiff, Nat.reduceLT, Nat.reduceLeDiff, g0, e3, g1, ↓RW, same_r, rsT, Int.reduceEq, Int.reduceNeg, Int.reduceLT, Int.reduceLE, nsv, rgv, wag, QW, Try.results14])))
  all_goals try (exfalso; omega)
  refine callVC (h34b) (by (simp -dsimp only [↓RP, RQ, Nat.reduceMul, reduceIte, reduceCtorEq, Nat.reduceAdd, Nat.reduceEqDiff, Nat.reduceLT, Nat.reduceLeDiff, QV, rsv, ints, I, B, wag]); all_goals (try simp [QV, Go.Sx.Sub, Go.Sx.SubL, wf_sub])) (by (simp -dsimp only [↓RP, RQ, Nat.reduceMul, reduceIte, reduceCtorEq, Nat.reduceAdd, Nat.reduceEqDiff, Nat.reduceLT, Nat.reduceLeDiff, QV, rsT, nsv, rgv, I, B, wag]); all_goals (try simp [QV])) ?_
  (repeat' (first | with_reducible (first | apply splitVC_d <;> intro _ | apply splitVC <;> intro _) | ((with_reducible refine And.intro ?_ ?_); focus (first | exact True.intro | omega | (simp only [InK, ne_eq, and_true, true_and]; omega) | (and_intros <;> first | exact .inr trivial | exact Nat.le_refl _ | exact one1 _ | exact one5 _ _ _ _ _ | exact one3 _ _ _ | exact .inl rfl | omega) | trivial)) | (simp -dsimp only [↓RP, RQ, Nat.reduceMul, reduceIte, reduceCtorEq, Nat.reduceAdd, Nat.reduceEqDiff, Nat.reduceLT, Nat.reduceLeDiff, g0, e3, g1, ↓RW, same_r, rsT, Int.reduceEq, Int.reduceNeg, Int.reduceLT, Int.reduceLE, nsv, rgv, wag, QW, Try.results14])))
  all_goals try (exfalso; omega)
  refine callVC (h34c) (by (simp -dsimp only [↓RP, RQ, Nat.reduceMul, reduceIte, reduceCtorEq, Nat.reduceAdd, Nat.reduceEqDiff, Nat.reduceLT, Nat.reduceLeDiff, QV, rsv, ints, I, B, wag]); all_goals (try simp [QV, Go.Sx.Sub, Go.Sx.SubL, wf_sub])) (by (simp -dsimp only [↓RP, RQ, Nat.reduceMul, reduceIte, reduceCtorEq, Nat.reduceAdd, Nat.reduceEqDiff, Nat.reduceLT, Nat.reduceLeDiff, QV, rsT, nsv, rgv, I, B, wag]); all_goals (try simp [QV])) ?_
  (repeat' (first | with_reducible (first | apply splitVC_d <;> intro _ | apply splitVC <;> intro _) | ((with_reducible refine And.intro ?_ ?_); focus (first | exact True.intro | omega | (simp only [InK, ne_eq, and_true, true_and]; omega) | (and_intros <;> first | exact .inr trivial | exact Nat.le_refl _ | exact one1 _ | exact one5 _ _ _ _ _ | exact one3 _ _ _ | exact .inl rfl | omega) | trivial)) | (simp -dsimp only [↓RP, RQ, Nat.reduceMul, reduceIte, reduceCtorEq, Nat.reduceAdd, Nat.reduceEqDiff, Nat.reduceLT, Nat.reduceLeDiff, g0, e3, g1, ↓RW, same_r, rsT, Int.reduceEq, Int.reduceNeg, Int.reduceLT, Int.reduceLE, nsv, rgv, wag, QW, Try.results14])))
  all_goals try (exfalso; omega)
  refine callVC (c18) (by (simp -dsimp only [↓RP, RQ, Nat.reduceMul, reduceIte, reduceCtorEq, Nat.reduceAdd, Nat.reduceEqDiff, Nat.reduceLT, Nat.reduceLeDiff, QV, rsv, ints, I, B, wag]); all_goals (try simp [QV, Go.Sx.Sub, Go.Sx.SubL, wf_sub])) (by (simp -dsimp only [↓RP, RQ, Nat.reduceMul, reduceIte, reduceCtorEq, Nat.reduceAdd, Nat.reduceEqDiff, Nat.reduceLT, Nat.reduceLeDiff, QV, rsT, nsv, rgv, I, B, wag]); all_goals (try simp [QV])) ?_
  (repeat' (first | with_reducible (first | apply splitVC_d <;> intro _ | apply splitVC <;> intro _) | ((with_reducible refine And.intro ?_ ?_); focus (first | exact True.intro | omega | (simp only [InK, ne_eq, and_true, true_and]; omega) | (and_intros <;> first | exact .inr trivial | exact Nat.le_refl _ | exact one1 _ | exact one5 _ _ _ _ _ | exact one3 _ _ _ | exact .inl rfl | omega) | trivial)) | (simp -dsimp only [↓RP, RQ, Nat.reduceMul, reduceIte, reduceCtorEq, Nat.reduceAdd, Nat.reduceEqDiff, Nat.reduceLT, Nat.reduceLeDiff, g0, e3, g1, ↓RW, same_r, rsT, Int.reduceEq, Int.reduceNeg, Int.reduceLT, Int.reduceLE, nsv, rgv, wag, QW, Try.results14])))
  all_goals try (exfalso; omega)
end Go.He
end
