/- A part of the proof. -/
import Derived.Test.YtpdebflfimmnpaaHC
import Derived.Test.YtpdebflfimmnpaaHD
import Derived.Test.YtpdebflfimmnpaaHG
section
set_option linter.unusedSimpArgs false
set_option linter.unusedVariables false
set_option linter.defProp false
set_option maxRecDepth 100000
set_option maxHeartbeats 16000000
namespace Go.He
open Go.Proofs
open Go.Sx
def nar (l : List Nat) : SV := .arr false false l.length 1 (fun i _ => .val (.int .i64 (l.getD i 0 : Nat)))
theorem shr_bit (x i : Nat) : decide ((((x : Int).fdiv (2 ^ i)).toNat &&& 1 : Nat) = (0 : Int)) = !x.testBit i := by
 have e : ((x : Int).fdiv (2 ^ i)).toNat = x / 2 ^ i := by
  rw [Int.fdiv_eq_ediv_of_nonneg _ (Int.le_of_lt (Int.pow_pos (by decide)))]
  have : ((2 : Int) ^ i) = ((2 ^ i : Nat) : Int) := by simp
  rw [this, ← Int.natCast_ediv, Int.toNat_natCast]
 rw [e, Nat.testBit_eq_decide_div_mod_eq, Nat.and_one_is_mod]
 have h2 : x / 2 ^ i % 2 = 0 ∨ x / 2 ^ i % 2 = 1 := by omega
 rcases h2 with h | h <;> rw [h] <;> rfl
theorem fdiv_bd (x i : Nat) (h : x < 4096) : 0 ≤ (x : Int).fdiv (2 ^ i) ∧ (x : Int).fdiv (2 ^ i) ≤ 4095 := by
 rw [Int.fdiv_eq_ediv_of_nonneg _ (Int.le_of_lt (Int.pow_pos (by decide)))]
 have e : ((2 : Int) ^ i) = ((2 ^ i : Nat) : Int) := by simp
 rw [e, ← Int.natCast_ediv]
 have := Nat.div_le_self x (2 ^ i)
 generalize x / 2 ^ i = y at *
 omega
theorem flt_get (q : Nat → Bool) (L : List Nat) (i : Nat) (h : i < (L.filter q).length) : L.getD ((lst (fun i => q (L.getD i 0)) L.length).getD i 0) 0 = (L.filter q).getD i 0 := by
 have e := lst_map q L L.length (Nat.le_refl _)
 rw [List.take_length] at e
 have hl : (lst (fun i => q (L.getD i 0)) L.length).length = (L.filter q).length := by rw [← e, List.length_map]
 have := congrArg (fun l => l[i]?) e
 simp only [List.getElem?_map] at this
 have h2 : i < (lst (fun i => q (L.getD i 0)) L.length).length := by omega
 rw [List.getD_eq_getElem?_getD (l := L.filter q), ← this, List.getD_eq_getElem?_getD (l := lst (fun i => q (L.getD i 0)) L.length), List.getElem?_eq_getElem h2]
 rfl
theorem flt_len' (q : Nat → Bool) (L : List Nat) : (lst (fun i => q (L.getD i 0)) L.length).length = (L.filter q).length := by
 have := congrArg List.length (lst_map q L L.length (Nat.le_refl _))
 rwa [List.length_map, List.take_length] at this
theorem upTo_app (f : Nat) : ∀ k, upTo f (k + 1) = upTo f k ++ [f + k] := by
 intro k
 induction k generalizing f with
 | zero => rfl
 | succ k ih =>
  rw [upTo, ih, upTo]
  simp
  omega
theorem hitL_S (g : Nat → List Nat × Bool) (i k : Nat) : hitL g i (k + 1) = if (g i).2 = true then (i :: (g i).1, true) else hitL g (i + 1) k := rfl
theorem c95 (x i : Nat) (hx : x < 4096) (hi : i ≤ 12) : Contract Try.prog 95 [.val (.int .i64 (x : Nat)), .ref false 1 (fun _ => .val (.int .i64 (i : Nat)))] (B (!x.testBit i)) := by
 refine contract_of Try.func95 rfl (by kernel_rfl) follows (by kernel_rfl) _ _ (by rw [Try.ntmps95]; simp) (by simp [OldL, Old, QV]) ?_
 unfold B
 have hb := fdiv_bd x i hx
 (repeat' (first | with_reducible (first | apply splitVC_d <;> intro _ | apply splitVC <;> intro _) | ((with_reducible refine And.intro ?_ ?_); focus (first | exact True.intro | omega | (simp only [InK, ne_eq, and_true, true_and]; omega) | trivial)) | (simp -dsimp only [↓RP, RQ, Nat.reduceMul, reduceIte, reduceCtorEq, Nat.reduceAdd, Nat.reduceEqDiff, Nat.reduceLT, Nat.reduceLeDiff, shr_bit, QW, Try.results95])))
 exact ⟨⟨by omega, by show i ≤ 64; omega⟩, hb.1, by simp only [InK]; omega, by decide, by simp only [InK]; omega⟩
theorem hit_nil {many f b : Nat} : hitV many [] f b = (upTo f many, decide (f + many ≤ b)) := by cases many <;> rfl
theorem up_get (f k : Nat) : ∀ (i : Nat), i < k + 1 → (if i < k then SV.val (.int .i64 ((upTo f k)[i]?.getD 0 : Nat)) else [SV.val (.int .i64 ((f : Int) + (k : Int)))][i - k]?.getD SV.top) = SV.val (.int .i64 ((upTo f k ++ [f + k])[i]?.getD 0 : Nat)) := by
 intro i hi
 by_cases h : i < k
 ·rw [if_pos h, List.getElem?_append_left (by rw [upTo_len]; exact h)]
 ·obtain rfl : i = k := by omega
  rw [if_neg h, List.getElem?_append_right (by rw [upTo_len]; exact Nat.le_refl _), upTo_len, Nat.sub_self]; rfl
theorem c92n (many f b : Nat) (b1 : many ≤ 12) (b2 : f ≤ 12) (b3 : b ≤ 12) : Contract Try.prog 92 [nar [], I many, I f, I b] (.tup [nsv (hitV many [] f b).1, B (hitV many [] f b).2]) := by
 rw [hit_nil]
 refine contract_of Try.func92 rfl (by kernel_rfl) follows (by kernel_rfl) _ _ (by rw [Try.ntmps92]; simp) (by simp [OldL, Old, QV, nar, I]) ?_
 unfold nar I
 (repeat' (first | with_reducible (first | apply splitVC_d <;> intro _ | apply splitVC <;> intro _) | ((with_reducible refine And.intro ?_ ?_); focus (first | exact True.intro | omega | (simp only [InK, ne_eq, and_true, true_and]; omega) | (and_intros <;> first | exact .inr trivial | exact Nat.le_refl _ | exact one1 _ | exact one5 _ _ _ _ _ | exact .inl rfl | omega) | trivial)) | (simp -dsimp only [↓RP, RQ, Nat.reduceMul, reduceIte, reduceCtorEq, Nat.reduceAdd, Nat.reduceEqDiff, Nat.reduceLT, Nat.reduceLeDiff, List.length_nil, nar, nsv, QW, Try.results92])))
 all_goals try (exfalso; omega)
 refine loop_vc (fun (k : Nat) => k ≤ many) (fun k => ⟨[(1, .val (.int .i64 (many : Nat))), (2, .val (.int .i64 (f : Nat))), (3, .val (.int .i64 (b : Nat))), (10, .vec 60 k 1), (19, .val (.int .i64 (many : Nat))), (20, .val (.int .i64 (k : Nat)))], [(60, .rows 3 1 k (fun y _ => .val (.int .i64 ((upTo f k).getD y 0 : Nat))))], 80⟩) (fun k => many - k) 0 (Nat.zero_le _) (weak [(60, none)] [] ?_ ?_ ?_) fun k hk => ?_
 iterate 3 focus ((simp -dsimp only [↓RP, RQ, Nat.reduceMul, reduceIte, reduceCtorEq, Nat.reduceAdd, Nat.reduceEqDiff, Nat.reduceLT, Nat.reduceLeDiff, QV]); all_goals (try simp [QV]))
 by_cases hlt : k < many
 ·(repeat' (first | with_reducible (first | apply splitVC_d <;> intro _ | apply splitVC <;> intro _) | ((with_reducible refine And.intro ?_ ?_); focus (first | exact True.intro | omega | (simp only [InK, ne_eq, and_true, true_and]; omega) | (and_intros <;> first | exact .inr trivial | exact Nat.le_refl _ | exact one1 _ | exact one5 _ _ _ _ _ | exact .inl rfl | omega) | trivial)) | (simp -dsimp only [↓RP, RQ, Nat.reduceMul, reduceIte, reduceCtorEq, Nat.reduceAdd, Nat.reduceEqDiff, Nat.reduceLT, Nat.reduceLeDiff, nar, nsv, QW, Try.results92])))
  all_goals try (exfalso; omega)
  refine ⟨k + 1, by omega, by omega, weak [(60, some 88)] [] ?_ ?_ ?_⟩
  ·(simp -dsimp only [↓RP, RQ, Nat.reduceMul, reduceIte, reduceCtorEq, Nat.reduceAdd, Nat.reduceEqDiff, Nat.reduceLT, Nat.reduceLeDiff, QV, upTo_app]); all_goals (try simp [QV, upTo_app])
  ·(simp -dsimp only [↓RP, RQ, Nat.reduceMul, reduceIte, reduceCtorEq, Nat.reduceAdd, Nat.reduceEqDiff, Nat.reduceLT, Nat.reduceLeDiff, QV, upTo_app]); all_goals (try simp [QV, upTo_app]); all_goals first | exact up_get f k | skip
  ·(simp -dsimp only [↓RP, RQ, Nat.reduceMul, reduceIte, reduceCtorEq, Nat.reduceAdd, Nat.reduceEqDiff, Nat.reduceLT, Nat.reduceLeDiff, QV]); all_goals (try simp [QV])
 ·have hkm : many = k := by omega
  subst hkm
  (repeat' (first | with_reducible (first | apply splitVC_d <;> intro _ | apply splitVC <;> intro _) | ((with_reducible refine And.intro ?_ ?_); focus (first | exact True.intro | omega | (simp only [InK, ne_eq, and_true, true_and]; omega) | (and_intros <;> first | exact .inr trivial | exact Nat.le_refl _ | exact one1 _ | exact one5 _ _ _ _ _ | exact .inl rfl | omega) | trivial)) | (simp -dsimp only [↓RP, RQ, Nat.reduceMul, reduceIte, reduceCtorEq, Nat.reduceAdd, Nat.reduceEqDiff, Nat.reduceLT, Nat.reduceLeDiff, nar, nsv, QW, Try.results92])))
  all_goals try (exfalso; omega)
  exact ⟨⟨upTo_len _ _, by rw [upTo_len]; exact Nat.le_refl _⟩, B_eq (by rw [Bool.eq_iff_iff]; simp only [decide_eq_true_eq]; omega)⟩
theorem hitL_len {g : Nat → List Nat × Bool} {c : Nat} (hg : ∀ i, (g i).1.length ≤ c) : ∀ (k f : Nat), (hitL g f k).1.length ≤ c + 1
 | 0, f => by simp [hitL]
 | k + 1, f => by
  rw [hitL_S]
  split
  ·simpa using hg f
  ·exact hitL_len hg k (f + 1)
theorem hit_len : ∀ (many : Nat) (ms : List Nat) (f b : Nat), (hitV many ms f b).1.length ≤ many
 | many, [], f, b => by rw [hit_nil]; rw [upTo_len]; exact Nat.le_refl _
 | 0, _ :: _, f, b => by simp [hitV]
 | many + 1, k :: ms, f, b => by
  show (hitL _ f (b - f)).1.length ≤ many + 1
  exact hitL_len (fun i => hit_len many _ (i + 1) b) _ _
theorem consU_get (i : Nat) (l : List Nat) : ∀ (z : Nat), z < l.length + 1 → (if z < 1 then [SV.val (.int .i64 (i : Nat))][z]?.getD SV.top else SV.val (.int .i64 (l[z - 1]?.getD 0 : Nat))) = SV.val (.int .i64 (((i :: l)[z]?.getD 0 : Nat))) := by
 intro z hz
 cases z with
 | zero => rfl
 | succ z => rw [if_neg (by omega)]; simp
theorem c92s (M : List Nat) (hM : M ≠ []) (many f b : Nat) (b1 : many + 1 ≤ 12) (b2 : f ≤ 12) (b3 : b ≤ 12) (hm : M.length ≤ 100000) (hx : ∀ y, y ∈ M → y < 4096) (ih : ∀ (ms : List Nat) (f : Nat), f ≤ 12 → ms.length ≤ 100000 → (∀ y, y ∈ ms → y < 4096) → Contract Try.prog 92 [nar ms, I many, I f, I b] (.tup [nsv (hitV many ms f b).1, B (hitV many ms f b).2])) : Contract Try.prog 92 [nar M, I (many + 1 : Nat), I f, I b] (.tup [nsv (hitL (fun i => hitV many (M.filter fun x => !x.testBit i) (i + 1) b) f (b - f)).1, B (hitL (fun i => hitV many (M.filter fun x => !x.testBit i) (i + 1) b) f (b - f)).2]) := by
 refine contract_of Try.func92 rfl (by kernel_rfl) follows (by kernel_rfl) _ _ (by rw [Try.ntmps92]; simp) (by simp [OldL, Old, QV, nar, I]) ?_
 have hl0 : 0 < M.length := List.length_pos_iff.2 hM
 have f0 := decide_eq_false (show ¬ ((M.length : Nat) : Int) = 0 by omega)
 unfold nar I
 (repeat' (first | with_reducible (first | apply splitVC_d <;> intro _ | apply splitVC <;> intro _) | ((with_reducible refine And.intro ?_ ?_); focus (first | exact True.intro | omega | (simp only [InK, ne_eq, and_true, true_and]; omega) | (and_intros <;> first | exact .inr trivial | exact Nat.le_refl _ | exact one1 _ | exact one5 _ _ _ _ _ | exact .inl rfl | omega) | trivial)) | (simp -dsimp only [↓RP, RQ, Nat.reduceMul, reduceIte, reduceCtorEq, Nat.reduceAdd, Nat.reduceEqDiff, Nat.reduceLT, Nat.reduceLeDiff, f0, nar, nsv, QW, Try.results92])))
 all_goals try (exfalso; omega)
 refine loop_vc (fun (i : Nat) => f ≤ i ∧ i ≤ 12 ∧ hitL (fun i => hitV many (M.filter fun x => !x.testBit i) (i + 1) b) f (b - f) = hitL (fun i => hitV many (M.filter fun x => !x.testBit i) (i + 1) b) i (b - i)) (fun i => ⟨[(0, .arr false false M.length 1 (fun y _ => .val (.int .i64 (M.getD y 0 : Nat)))), (1, .val (.int .i64 (many + 1 : Nat))), (3, .val (.int .i64 (b : Nat))), (12, .ptr 60 0)], [(60, .cells 3 [.val (.int .i64 (i : Nat))])], 80⟩) (fun i => b - i) f ⟨Nat.le_refl _, b2, rfl⟩ (weak [(60, some 8)] [] ?_ ?_ ?_) fun i hi => ?_
 iterate 3 focus ((simp -dsimp only [↓RP, RQ, Nat.reduceMul, reduceIte, reduceCtorEq, Nat.reduceAdd, Nat.reduceEqDiff, Nat.reduceLT, Nat.reduceLeDiff, QV]); all_goals (try simp [QV]))
 obtain ⟨hi1, hi2, he⟩ := hi
 rw [he]
 by_cases hlt : i < b
 ·obtain ⟨c, hc⟩ : ∃ c, b - i = c + 1 := ⟨b - i - 1, by omega⟩
  rw [hc, hitL_S]
  (repeat' (first | with_reducible (first | apply splitVC_d <;> intro _ | apply splitVC <;> intro _) | ((with_reducible refine And.intro ?_ ?_); focus (first | exact True.intro | omega | (simp only [InK, ne_eq, and_true, true_and]; omega) | (and_intros <;> first | exact .inr trivial | exact Nat.le_refl _ | exact one1 _ | exact one5 _ _ _ _ _ | exact .inl rfl | omega) | trivial)) | (simp -dsimp only [↓RP, RQ, Nat.reduceMul, reduceIte, reduceCtorEq, Nat.reduceAdd, Nat.reduceEqDiff, Nat.reduceLT, Nat.reduceLeDiff, nar, nsv, QW, Try.results92])))
  all_goals try (exfalso; omega)
  refine callVC (c94 M.length (fun y => ((M.getD y 0 : Nat) : Int)) 95 [] [.ref false 1 (fun _ => .val (.int .i64 (i : Nat)))] (by simp [OldL]) (by simp [OldL, Old]) (fun y => !(M.getD y 0).testBit i) (by omega) (fun y hy => c95 (M.getD y 0) i (hx _ (by rw [List.getD_eq_getElem?_getD, List.getElem?_eq_getElem hy]; exact List.getElem_mem hy)) (by omega))) (by (simp -dsimp only [↓RP, RQ, Nat.reduceMul, reduceIte, reduceCtorEq, Nat.reduceAdd, Nat.reduceEqDiff, Nat.reduceLT, Nat.reduceLeDiff, QV, ints]); all_goals (try simp [QV, Go.Sx.Sub, Go.Sx.SubL])) (by (simp -dsimp only [↓RP, RQ, Nat.reduceMul, reduceIte, reduceCtorEq, Nat.reduceAdd, Nat.reduceEqDiff, Nat.reduceLT, Nat.reduceLeDiff, QX]); all_goals (try simp [QV])) ?_
  (repeat' (first | with_reducible (first | apply splitVC_d <;> intro _ | apply splitVC <;> intro _) | ((with_reducible refine And.intro ?_ ?_); focus (first | exact True.intro | omega | (simp only [InK, ne_eq, and_true, true_and]; omega) | (and_intros <;> first | exact .inr trivial | exact Nat.le_refl _ | exact one1 _ | exact one5 _ _ _ _ _ | exact .inl rfl | omega) | trivial)) | (simp -dsimp only [↓RP, RQ, Nat.reduceMul, reduceIte, reduceCtorEq, Nat.reduceAdd, Nat.reduceEqDiff, Nat.reduceLT, Nat.reduceLeDiff, nar, nsv, QW, Try.results92])))
  all_goals try (exfalso; omega)
  have hsub : (M.filter fun x => !x.testBit i).length = (lst (fun y => !(M[y]?.getD 0).testBit i) M.length).length ∧ ∀ (z : Nat), z < (M.filter fun x => !x.testBit i).length → ((M[(lst (fun y => !(M[y]?.getD 0).testBit i) M.length)[z]?.getD 0]?.getD 0 : Nat) : Int) = (((M.filter fun x => !x.testBit i)[z]?.getD 0 : Nat) : Int) := by
   refine ⟨(flt_len' (fun x => !x.testBit i) M).symm.trans (by simp), fun z hz => ?_⟩
   have := flt_get (fun x => !x.testBit i) M z hz
   simp only [List.getD_eq_getElem?_getD] at this
   rw [this]
  refine callVC (ih (M.filter fun x => !x.testBit i) (i + 1) (by omega) (Nat.le_trans (List.length_filter_le _ _) hm) (fun y hy => hx y (List.mem_filter.1 hy).1)) (by (simp -dsimp only [↓RP, RQ, Nat.reduceMul, reduceIte, reduceCtorEq, Nat.reduceAdd, Nat.reduceEqDiff, Nat.reduceLT, Nat.reduceLeDiff, QV, nar, I]); all_goals (try simp [QV, Go.Sx.Sub, Go.Sx.SubL]); exact hsub) (by (simp -dsimp only [↓RP, RQ, Nat.reduceMul, reduceIte, reduceCtorEq, Nat.reduceAdd, Nat.reduceEqDiff, Nat.reduceLT, Nat.reduceLeDiff, nsv, B]); all_goals (try simp [QV])) ?_
  have hrl := hit_len many (M.filter fun x => !x.testBit i) (i + 1) b
  obtain ⟨r, hr⟩ : ∃ r, hitV many (M.filter fun x => !x.testBit i) (i + 1) b = r := ⟨_, rfl⟩
  rw [hr] at hrl ⊢
  obtain ⟨rl, rb⟩ := r
  simp only at hrl
  cases rb with
  | true =>
   rw [if_pos rfl]
   (repeat' (first | with_reducible (first | apply splitVC_d <;> intro _ | apply splitVC <;> intro _) | ((with_reducible refine And.intro ?_ ?_); focus (first | exact True.intro | omega | (simp only [InK, ne_eq, and_true, true_and]; omega) | (and_intros <;> first | exact .inr trivial | exact Nat.le_refl _ | exact one1 _ | exact one5 _ _ _ _ _ | exact .inl rfl | omega) | trivial)) | (simp -dsimp only [↓RP, RQ, Nat.reduceMul, reduceIte, reduceCtorEq, Nat.reduceAdd, Nat.reduceEqDiff, Nat.reduceLT, Nat.reduceLeDiff, nar, nsv, QW, Try.results92])))
   all_goals try (exfalso; omega)
   intro z j hz hj
   obtain rfl : j = 0 := by omega
   have := consU_get i rl z hz
   simpa only [List.getD_eq_getElem?_getD, Nat.add_zero] using this
  | false =>
   rw [if_neg (by simp)]
   (repeat' (first | with_reducible (first | apply splitVC_d <;> intro _ | apply splitVC <;> intro _) | ((with_reducible refine And.intro ?_ ?_); focus (first | exact True.intro | omega | (simp only [InK, ne_eq, and_true, true_and]; omega) | (and_intros <;> first | exact .inr trivial | exact Nat.le_refl _ | exact one1 _ | exact one5 _ _ _ _ _ | exact .inl rfl | omega) | trivial)) | (simp -dsimp only [↓RP, RQ, Nat.reduceMul, reduceIte, reduceCtorEq, Nat.reduceAdd, Nat.reduceEqDiff, Nat.reduceLT, Nat.reduceLeDiff, nar, nsv, QW, Try.results92])))
   all_goals try (exfalso; omega)
   refine ⟨i + 1, ⟨by omega, by omega, by rw [show b - (i + 1) = c by omega]⟩, by omega, weak [(60, some 101)] [] ?_ ?_ ?_⟩
   iterate 3 focus ((simp -dsimp only [↓RP, RQ, Nat.reduceMul, reduceIte, reduceCtorEq, Nat.reduceAdd, Nat.reduceEqDiff, Nat.reduceLT, Nat.reduceLeDiff, QV]); all_goals (try simp [QV]))
 ·have e0 : b - i = 0 := by omega
  rw [e0]
  (repeat' (first | with_reducible (first | apply splitVC_d <;> intro _ | apply splitVC <;> intro _) | ((with_reducible refine And.intro ?_ ?_); focus (first | exact True.intro | omega | (simp only [InK, ne_eq, and_true, true_and]; omega) | (and_intros <;> first | exact .inr trivial | exact Nat.le_refl _ | exact one1 _ | exact one5 _ _ _ _ _ | exact .inl rfl | omega) | trivial)) | (simp -dsimp only [↓RP, RQ, Nat.reduceMul, reduceIte, reduceCtorEq, Nat.reduceAdd, Nat.reduceEqDiff, Nat.reduceLT, Nat.reduceLeDiff, hitL, nar, nsv, QW, Try.results92])))
  all_goals try (exfalso; omega)
theorem c92z (y : Nat) (M : List Nat) (f b : Nat) (b2 : f ≤ 12) (b3 : b ≤ 12) (hm : (y :: M).length ≤ 100000) : Contract Try.prog 92 [nar (y :: M), I (0 : Nat), I f, I b] (.tup [nsv [], B false]) := by
 refine contract_of Try.func92 rfl (by kernel_rfl) follows (by kernel_rfl) _ _ (by rw [Try.ntmps92]; simp) (by simp [OldL, Old, QV, nar, I]) ?_
 have f0 := decide_eq_false (show ¬ (((y :: M).length : Nat) : Int) = 0 by simp; omega)
 unfold nar I
 (repeat' (first | with_reducible (first | apply splitVC_d <;> intro _ | apply splitVC <;> intro _) | ((with_reducible refine And.intro ?_ ?_); focus (first | exact True.intro | omega | (simp only [InK, ne_eq, and_true, true_and]; omega) | (and_intros <;> first | exact .inr trivial | exact Nat.le_refl _ | exact one1 _ | exact one5 _ _ _ _ _ | exact .inl rfl | omega) | trivial)) | (simp -dsimp only [↓RP, RQ, Nat.reduceMul, reduceIte, reduceCtorEq, Nat.reduceAdd, Nat.reduceEqDiff, Nat.reduceLT, Nat.reduceLeDiff, f0, nar, nsv, QW, Try.results92])))
 all_goals try (exfalso; omega)
theorem c92 : ∀ (many : Nat) (M : List Nat) (f b : Nat), many ≤ 12 → f ≤ 12 → b ≤ 12 → M.length ≤ 100000 → (∀ y, y ∈ M → y < 4096) → Contract Try.prog 92 [nar M, I many, I f, I b] (.tup [nsv (hitV many M f b).1, B (hitV many M f b).2])
 | many, [], f, b, h1, h2, h3, _, _ => c92n many f b h1 h2 h3
 | 0, y :: M, f, b, _, h2, h3, hm, hx => c92z y M f b h2 h3 hm
 | many + 1, y :: M, f, b, h1, h2, h3, hm, hx => c92s (y :: M) (by simp) many f b h1 h2 h3 hm hx (fun ms g hg hl hx => c92 many ms g b (by omega) hg h3 hl hx)
end Go.He
end
section
set_option linter.unusedSimpArgs false
set_option linter.unusedVariables false
set_option linter.defProp false
set_option maxRecDepth 100000
set_option maxHeartbeats 16000000
namespace Go.He
open Go.Proofs
open Go.Sx
theorem mk_S (w : Nat → Wd) (f : Nat → Int) (k : Nat) : mk w f (k + 1) = if says (w k) (fun y => f y.toNat) then mk w f k else mk w f k + 2 ^ k := rfl
theorem mk_4095 (w : Nat → Wd) (f : Nat → Int) {k : Nat} (hk : k ≤ 12) : mk w f k ≤ 4095 := by
 have := mk_lt w f k
 have h1 : 2 ^ k ≤ 2 ^ 12 := Nat.pow_le_pow_right (by decide) hk
 omega
theorem pow_4095 {k : Nat} (hk : k < 12) : (2 : Nat) ^ k ≤ 2048 := by
 have h1 : 2 ^ k ≤ 2 ^ 11 := Nat.pow_le_pow_right (by decide) (by omega)
 omega
def MsL (w : Nat → Wd) (m n : Nat) : Nat → List Nat
 | 0 => []
 | t + 1 => if okF n t = true ∧ mk w (Dg n t) m ≠ 0 ∧ mk w (Dg n t) m ∉ MsL w m n t then MsL w m n t ++ [mk w (Dg n t) m] else MsL w m n t
theorem MsL_S (w : Nat → Wd) (m n t : Nat) : MsL w m n (t + 1) = if okF n t = true ∧ mk w (Dg n t) m ≠ 0 ∧ mk w (Dg n t) m ∉ MsL w m n t then MsL w m n t ++ [mk w (Dg n t) m] else MsL w m n t := rfl
theorem MsL_0 (w : Nat → Wd) (m n : Nat) : MsL w m n 0 = [] := rfl
theorem MsL_mem {w : Nat → Wd} {m n x : Nat} : ∀ {T : Nat}, x ∈ MsL w m n T ↔ x ≠ 0 ∧ ∃ t, t < T ∧ okF n t = true ∧ mk w (Dg n t) m = x
 | 0 => by simp [MsL]
 | T + 1 => by
  have ih := MsL_mem (w := w) (m := m) (n := n) (x := x) (T := T)
  rw [MsL_S]
  split
  ·rename_i h
   rw [List.mem_append, ih, List.mem_singleton]
   constructor
   ·rintro (⟨h0, t, ht, a, b⟩ | rfl)
    ·exact ⟨h0, t, by omega, a, b⟩
    ·exact ⟨h.2.1, T, by omega, h.1, rfl⟩
   ·rintro ⟨h0, t, ht, a, b⟩
    by_cases e : t = T
    ·subst e; exact .inr b.symm
    ·exact .inl ⟨h0, t, by omega, a, b⟩
  ·rename_i h
   rw [ih]
   constructor
   ·rintro ⟨h0, t, ht, a, b⟩; exact ⟨h0, t, by omega, a, b⟩
   ·rintro ⟨h0, t, ht, a, b⟩
    by_cases e : t = T
    ·subst e
     subst b
     have hm : mk w (Dg n t) m ∈ MsL w m n t := Classical.byContradiction fun hc => h ⟨a, h0, hc⟩
     exact ⟨h0, (ih.1 hm).2⟩
    ·exact ⟨h0, t, by omega, a, b⟩
theorem MsL_msk (w : Nat → Wd) (m n : Nat) : Msk w m n (MsL w m n (n ^ n)) := fun x => by
 rw [MsL_mem]
 constructor
 ·rintro ⟨h0, t, a, b, c⟩; exact ⟨h0, t, mem_lst.2 ⟨a, b⟩, c.symm⟩
 ·rintro ⟨h0, t, a, b⟩; exact ⟨h0, t, (mem_lst.1 a).1, (mem_lst.1 a).2, b.symm⟩
theorem MsL_len (w : Nat → Wd) (m n : Nat) : ∀ T, (MsL w m n T).length ≤ T
 | 0 => Nat.le_refl _
 | T + 1 => by rw [MsL_S]; have := MsL_len w m n T; split <;> simp <;> omega
theorem any_mem (L : List Nat) (v : Nat) : decide (anyI (vAt (fun i => ((L.getD i 0 : Nat) : Int)) (v : Nat)) L.length) = decide (v ∈ L) := by
 rw [Bool.eq_iff_iff, decide_eq_true_eq, decide_eq_true_eq]
 constructor
 ·rintro ⟨i, hi, h⟩
  have h : (v : Int) = ((L.getD i 0 : Nat) : Int) := by simpa [vAt] using h
  have h : v = L.getD i 0 := by omega
  rw [h]
  exact getD_mem hi
 ·intro h
  obtain ⟨i, hi, e⟩ := mem_getD h
  exact ⟨i, hi, by subst e; simp [vAt]⟩
theorem baseG_0 (M : List Nat) (m y : Nat) : baseG M m y 0 = upTo 0 m := rfl
theorem baseG_S (M : List Nat) (m y z : Nat) : baseG M m y (z + 1) = if (hitV y M 0 m).2 = true then (hitV y M 0 m).1 else baseG M m (y + 1) z := rfl
theorem up_get0 (k : Nat) : ∀ (i : Nat), i < k + 1 → (if i < k then SV.val (.int .i64 ((upTo 0 k)[i]?.getD 0 : Nat)) else [SV.val (.int .i64 (k : Nat))][i - k]?.getD SV.top) = SV.val (.int .i64 ((upTo 0 k ++ [k])[i]?.getD 0 : Nat)) := by
 intro i hi
 have := up_get 0 k i hi
 simpa using this
theorem growN (L : List Nat) (k : Nat) : ∀ (i : Nat), i < L.length + 1 → (if i < L.length then SV.val (.int .i64 (L[i]?.getD 0 : Nat)) else [SV.val (.int .i64 (k : Nat))][i - L.length]?.getD SV.top) = SV.val (.int .i64 ((if i < L.length then L[i]?.getD 0 else if i = L.length then k else 0 : Nat) : Nat)) := by
 intro i hi
 by_cases h : i < L.length
 ·rw [if_pos h, if_pos h]
 ·obtain rfl : i = L.length := by omega
  rw [if_neg h, if_neg h, if_pos rfl, Nat.sub_self]; rfl
theorem MsL_lt {w : Nat → Wd} {m n T : Nat} (hm : m ≤ 12) {x : Nat} (h : x ∈ MsL w m n T) : x < 4096 := by
 obtain ⟨_, t, _, _, rfl⟩ := MsL_mem.1 h
 have := mk_4095 w (Dg n t) hm
 omega
theorem c79 (n : Nat) (hn1 : 1 ≤ n) (h5 : n ≤ 5) (m : Nat) (hm : m ≤ 12) (w : Nat → Wd) (hw : Fit w m n) : Contract Try.prog 79 [pref n m w] (nsv (baseP (MsL w m n (n ^ n)) m)) := by
 refine contract_of Try.func79 rfl (by kernel_rfl) follows (by kernel_rfl) _ _ (by rw [Try.ntmps79]; simp) (by simp [OldL, Old, QV, pref]) ?_
 have hpw := pow5 h5
 have eq5_fin := fun t => eq5_fin n t h5
 unfold pref
 (repeat' (first | with_reducible (first | apply splitVC_d <;> intro _ | apply splitVC <;> intro _) | ((with_reducible refine And.intro ?_ ?_); focus (first | exact True.intro | omega | (simp only [InK, ne_eq, and_true, true_and]; omega) | (and_intros <;> first | exact .inr trivial | exact Nat.le_refl _ | exact one1 _ | exact one5 _ _ _ _ _ | omega) | trivial)) | (simp -dsimp only [↓RP, RQ, Nat.reduceMul, reduceIte, reduceCtorEq, Nat.reduceAdd, Nat.reduceEqDiff, Nat.reduceLT, Nat.reduceLeDiff, getD_app, app_len, nsv, Try.results85, QW, Try.results79])))
 refine callVC_old (c61 n m w) (by (simp -dsimp only [↓RP, RQ, Nat.reduceMul, reduceIte, reduceCtorEq, Nat.reduceAdd, Nat.reduceEqDiff, Nat.reduceLT, Nat.reduceLeDiff, QX]); all_goals (try simp [QV, Go.Sx.Sub, Go.Sx.SubL]); all_goals (try exact lit2 _ _)) ?_
 (repeat' (first | with_reducible (first | apply splitVC_d <;> intro _ | apply splitVC <;> intro _) | ((with_reducible refine And.intro ?_ ?_); focus (first | exact True.intro | omega | (simp only [InK, ne_eq, and_true, true_and]; omega) | (and_intros <;> first | exact .inr trivial | exact Nat.le_refl _ | exact one1 _ | exact one5 _ _ _ _ _ | omega) | trivial)) | (simp -dsimp only [↓RP, RQ, Nat.reduceMul, reduceIte, reduceCtorEq, Nat.reduceAdd, Nat.reduceEqDiff, Nat.reduceLT, Nat.reduceLeDiff, getD_app, app_len, nsv, Try.results85, QW, Try.results79])))
 refine rangeIH (ps := [15]) follows (handAt 6) (by rfl) Try.func85 rfl (by kernel_rfl) (by kernel_rfl) (by rw [Try.results85]) (by rw [Try.ntmps85]; simp) fun out L R => ?_
 (repeat' (first | with_reducible (first | apply splitVC_d <;> intro _ | apply splitVC <;> intro _) | ((with_reducible refine And.intro ?_ ?_); focus (first | exact True.intro | omega | (simp only [InK, ne_eq, and_true, true_and]; omega) | (and_intros <;> first | exact .inr trivial | exact Nat.le_refl _ | exact one1 _ | exact one5 _ _ _ _ _ | omega) | trivial)) | (simp -dsimp only [↓RP, RQ, Nat.reduceMul, reduceIte, reduceCtorEq, Nat.reduceAdd, Nat.reduceEqDiff, Nat.reduceLT, Nat.reduceLeDiff, getD_app, app_len, nsv, Try.results85, QW, Try.results79])))
 refine loop_vc (fun (i : Nat) => i ≤ n) (fun i => ⟨[(0, .yld 5), (1, .ref false 1 (fun _ => .ref false 2 (fun j => rf n m w j))), (3, .ptr 6 0), (10, .val (.int .i64 (n : Nat))), (11, .val (.int .i64 (i : Nat)))], [(6, .cells 73 (pl (one0 i))), (5, .loop L .ready), (2, .cells 25 [.val (.slice none 0 0)]), (0, .cells 69 [.ref false 2 (fun j => rf n m w j)])], 30⟩) (fun i => n - i) 0 (Nat.zero_le _) (weak [] [] ?_ ?_ ?_ rfl) fun i hi => ?_
 iterate 3 focus ((simp -dsimp only [↓RP, RQ, Nat.reduceMul, reduceIte, reduceCtorEq, Nat.reduceAdd, Nat.reduceEqDiff, Nat.reduceLT, Nat.reduceLeDiff, QV, pl, one0]); all_goals (try simp [QV]))
 by_cases hlt : i < n
 ·have hi5 : i < 5 := by omega
  (repeat' (first | with_reducible (first | apply splitVC_d <;> intro _ | apply splitVC <;> intro _) | ((with_reducible refine And.intro ?_ ?_); focus (first | exact True.intro | omega | (simp only [InK, ne_eq, and_true, true_and]; omega) | (and_intros <;> first | exact .inr trivial | exact Nat.le_refl _ | exact one1 _ | exact one5 _ _ _ _ _ | omega) | trivial)) | (simp -dsimp only [↓RP, RQ, Nat.reduceMul, reduceIte, reduceCtorEq, Nat.reduceAdd, Nat.reduceEqDiff, Nat.reduceLT, Nat.reduceLeDiff, one0_S, getD_app, app_len, nsv, Try.results85, QW, Try.results79])))
  all_goals try (exfalso; omega)
  refine ⟨i + 1, by omega, by omega, weak [] [] ?_ ?_ ?_ rfl⟩
  iterate 3 focus ((simp -dsimp only [↓RP, RQ, Nat.reduceMul, reduceIte, reduceCtorEq, Nat.reduceAdd, Nat.reduceEqDiff, Nat.reduceLT, Nat.reduceLeDiff, QV]); all_goals (try simp [QV]))
 have hin : n = i := by omega
 subst hin
 (repeat' (first | with_reducible (first | apply splitVC_d <;> intro _ | apply splitVC <;> intro _) | ((with_reducible refine And.intro ?_ ?_); focus (first | exact True.intro | omega | (simp only [InK, ne_eq, and_true, true_and]; omega) | (and_intros <;> first | exact .inr trivial | exact Nat.le_refl _ | exact one1 _ | exact one5 _ _ _ _ _ | omega) | trivial)) | (simp -dsimp only [↓RP, RQ, Nat.reduceMul, reduceIte, reduceCtorEq, Nat.reduceAdd, Nat.reduceEqDiff, Nat.reduceLT, Nat.reduceLeDiff, getD_app, app_len, nsv, Try.results85, QW, Try.results79])))
 all_goals try (exfalso; omega)
 refine loop_vc (fun (t : Nat) => t < n ^ n) (fun t => ⟨[(0, .yld 5), (1, .ref false 1 (fun _ => .ref false 2 (fun j => rf n m w j))), (3, .ptr 6 0)], [(6, .cells 73 (pl (Dg n t))), (5, .loop L .ready), (60, .rows 3 1 (MsL w m n t).length (fun i _ => .val (.int .i64 ((MsL w m n t).getD i 0 : Nat)))), (2, .cells 25 [.vec 60 (MsL w m n t).length 1]), (0, .cells 69 [.ref false 2 (fun j => rf n m w j)])], 80⟩) (fun t => n ^ n - t) 0 (pow_pos' hn1) (weak [(60, none)] [] ?_ ?_ ?_ rfl) fun t ht => ?_
 iterate 3 focus ((simp -dsimp only [↓RP, RQ, Nat.reduceMul, reduceIte, reduceCtorEq, Nat.reduceAdd, Nat.reduceEqDiff, Nat.reduceLT, Nat.reduceLeDiff, QV, one0_n, MsL_0, app_len, getD_app]); all_goals (try simp [one0_n, QV, MsL_0, app_len, getD_app]))
 have hlen := lst_len (okF n) t
 (repeat' (first | with_reducible (first | apply splitVC_d <;> intro _ | apply splitVC <;> intro _) | ((with_reducible refine And.intro ?_ ?_); focus (first | exact True.intro | omega | (simp only [InK, ne_eq, and_true, true_and]; omega) | (and_intros <;> first | exact .inr trivial | exact Nat.le_refl _ | exact one1 _ | exact one5 _ _ _ _ _ | omega) | trivial)) | (simp -dsimp only [↓RP, RQ, Nat.reduceMul, reduceIte, reduceCtorEq, Nat.reduceAdd, Nat.reduceEqDiff, Nat.reduceLT, Nat.reduceLeDiff, pl_fit, getD_app, app_len, nsv, Try.results85, QW, Try.results79])))
 refine tailRegion follows 8 (by kernel_rfl) ?_
 simp only [List.take_succ_cons, List.take_zero, List.drop_succ_cons, List.drop_zero]
 (repeat' (first | with_reducible (first | apply splitVC_d <;> intro _ | apply splitVC <;> intro _) | ((with_reducible refine And.intro ?_ ?_); focus (first | exact True.intro | omega | (simp only [InK, ne_eq, and_true, true_and]; omega) | (and_intros <;> first | exact .inr trivial | exact Nat.le_refl _ | exact one1 _ | exact one5 _ _ _ _ _ | omega) | trivial)) | (simp -dsimp only [↓RP, RQ, Nat.reduceMul, reduceIte, reduceCtorEq, Nat.reduceAdd, Nat.reduceEqDiff, Nat.reduceLT, Nat.reduceLeDiff, pl_fit, getD_app, app_len, nsv, Try.results85, QW, Try.results79])))
 refine callVC (c57 n h5 m w (Dg n t)) ?_ ?_ ?_; iterate 2 focus ((simp -dsimp only [↓RP, RQ, Nat.reduceMul, reduceIte, reduceCtorEq, Nat.reduceAdd, Nat.reduceEqDiff, Nat.reduceLT, Nat.reduceLeDiff, QX]); all_goals (try simp [QV, Go.Sx.Sub, Go.Sx.SubL]); all_goals (try exact lit2 _ _))
 cases hok : okF n t with
 | true =>
  have hok2 := hok
  (repeat' (first | with_reducible (first | apply splitVC_d <;> intro _ | apply splitVC <;> intro _) | ((with_reducible refine And.intro ?_ ?_); focus (first | exact True.intro | omega | (simp only [InK, ne_eq, and_true, true_and]; omega) | (and_intros <;> first | exact .inr trivial | exact Nat.le_refl _ | exact one1 _ | exact one5 _ _ _ _ _ | omega) | trivial)) | (simp -dsimp only [↓RP, RQ, Nat.reduceMul, reduceIte, reduceCtorEq, Nat.reduceAdd, Nat.reduceEqDiff, Nat.reduceLT, Nat.reduceLeDiff, eq5_fin, hok, getD_app, app_len, nsv, Try.results85, QW, Try.results79])))
  refine yieldIT follows trivial R (by rfl) (by rfl) fun out2 => ?_
  (repeat' (first | with_reducible (first | apply splitVC_d <;> intro _ | apply splitVC <;> intro _) | ((with_reducible refine And.intro ?_ ?_); focus (first | exact True.intro | omega | (simp only [InK, ne_eq, and_true, true_and]; omega) | (and_intros <;> first | exact .inr trivial | exact Nat.le_refl _ | exact one1 _ | exact one5 _ _ _ _ _ | omega) | trivial)) | (simp -dsimp only [↓RP, RQ, Nat.reduceMul, reduceIte, reduceCtorEq, Nat.reduceAdd, Nat.reduceEqDiff, Nat.reduceLT, Nat.reduceLeDiff, getD_app, app_len, nsv, Try.results85, QW, Try.results79])))
  refine loop_vc (fun (k : Nat) => k ≤ m) (fun k => ⟨[(1, .ptr 0 0), (3, .ptr 2 0), (4, .ptr 88 0), (5, .val (.int .i64 (mk w (Dg n t) k : Nat))), (20, .arr false false m 3 (fun i j => wf (w i) j)), (21, .val (.int .i64 (m : Nat))), (22, .val (.int .i64 (k : Nat)))], [(88, .cells 73 (pl (Dg n t))), (6, .cells 73 (pl (Dg n t))), (5, .loop L .busy), (60, .rows 3 1 (MsL w m n t).length (fun i _ => .val (.int .i64 ((MsL w m n t).getD i 0 : Nat)))), (2, .cells 25 [.vec 60 (MsL w m n t).length 1]), (0, .cells 69 [.ref false 2 (fun j => rf n m w j)])], 120⟩) (fun k => m - k) 0 (Nat.zero_le _) (weak [] [] ?_ ?_ ?_ rfl) fun k hk => ?_
  iterate 3 focus ((simp -dsimp only [↓RP, RQ, Nat.reduceMul, reduceIte, reduceCtorEq, Nat.reduceAdd, Nat.reduceEqDiff, Nat.reduceLT, Nat.reduceLeDiff, QV, mk]); all_goals (try simp [QV, mk]))
  by_cases hlt : k < m
  ·have ha := hw.a k hlt
   have hb := hw.b k hlt
   (repeat' (first | with_reducible (first | apply splitVC_d <;> intro _ | apply splitVC <;> intro _) | ((with_reducible refine And.intro ?_ ?_); focus (first | exact True.intro | omega | (simp only [InK, ne_eq, and_true, true_and]; omega) | (and_intros <;> first | exact .inr trivial | exact Nat.le_refl _ | exact one1 _ | exact one5 _ _ _ _ _ | omega) | trivial)) | (simp -dsimp only [↓RP, RQ, Nat.reduceMul, reduceIte, reduceCtorEq, Nat.reduceAdd, Nat.reduceEqDiff, Nat.reduceLT, Nat.reduceLeDiff, getD_app, app_len, nsv, Try.results85, QW, Try.results79])))
   all_goals try (exfalso; omega)
   refine callVC (c75 (Dg n t) (w k) (by omega) (by omega)) (by (simp -dsimp only [↓RP, RQ, Nat.reduceMul, reduceIte, reduceCtorEq, Nat.reduceAdd, Nat.reduceEqDiff, Nat.reduceLT, Nat.reduceLeDiff, QV, psv, wag]); all_goals (try simp [QV, Go.Sx.Sub, Go.Sx.SubL])) (by (simp -dsimp only [↓RP, RQ, Nat.reduceMul, reduceIte, reduceCtorEq, Nat.reduceAdd, Nat.reduceEqDiff, Nat.reduceLT, Nat.reduceLeDiff, QX]); all_goals (try simp [QV])) ?_
   by_cases hs : says (w k) (fun y => Dg n t y.toNat)
   ·have fs := decide_eq_true hs
    have em : mk w (Dg n t) (k + 1) = mk w (Dg n t) k := by rw [mk_S, if_pos hs]
    (repeat' (first | with_reducible (first | apply splitVC_d <;> intro _ | apply splitVC <;> intro _) | ((with_reducible refine And.intro ?_ ?_); focus (first | exact True.intro | omega | (simp only [InK, ne_eq, and_true, true_and]; omega) | (and_intros <;> first | exact .inr trivial | exact Nat.le_refl _ | exact one1 _ | exact one5 _ _ _ _ _ | omega) | trivial)) | (simp -dsimp only [↓RP, RQ, Nat.reduceMul, reduceIte, reduceCtorEq, Nat.reduceAdd, Nat.reduceEqDiff, Nat.reduceLT, Nat.reduceLeDiff, fs, getD_app, app_len, nsv, Try.results85, QW, Try.results79])))
    all_goals try (exfalso; omega)
    refine ⟨k + 1, by omega, by omega, weak [] [] ?_ ?_ ?_ rfl⟩
    ·(simp -dsimp only [↓RP, RQ, Nat.reduceMul, reduceIte, reduceCtorEq, Nat.reduceAdd, Nat.reduceEqDiff, Nat.reduceLT, Nat.reduceLeDiff, QV, em]); all_goals (try simp [QV, em])
    iterate 2 focus ((simp -dsimp only [↓RP, RQ, Nat.reduceMul, reduceIte, reduceCtorEq, Nat.reduceAdd, Nat.reduceEqDiff, Nat.reduceLT, Nat.reduceLeDiff, QV]); all_goals (try simp [QV]))
   ·have fs := decide_eq_false hs
    have em : mk w (Dg n t) (k + 1) = mk w (Dg n t) k ||| 2 ^ k := by rw [mk_S, if_neg hs, mk_or]
    have hp2 := pow_4095 (show k < 12 by omega)
    have hml := mk_4095 w (Dg n t) (show k ≤ 12 by omega)
    have hpc : (2 : Int) ^ k = ((2 ^ k : Nat) : Int) := by simp
    obtain ⟨P, hP⟩ : ∃ P, (2 : Nat) ^ k = P := ⟨_, rfl⟩
    have hp3 : P ≤ 2048 := hP ▸ hp2
    rw [hP] at hpc
    have hbits : k ≤ IntKind.i64.bits := by show k ≤ 64; omega
    (repeat' (first | with_reducible (first | apply splitVC_d <;> intro _ | apply splitVC <;> intro _) | ((with_reducible refine And.intro ?_ ?_); focus (first | exact True.intro | omega | (simp only [InK, ne_eq, and_true, true_and]; omega) | (and_intros <;> first | exact .inr trivial | exact Nat.le_refl _ | exact one1 _ | exact one5 _ _ _ _ _ | omega) | trivial)) | (simp -dsimp only [↓RP, RQ, Nat.reduceMul, reduceIte, reduceCtorEq, Nat.reduceAdd, Nat.reduceEqDiff, Nat.reduceLT, Nat.reduceLeDiff, fs, getD_app, app_len, nsv, Try.results85, QW, Try.results79])))
    all_goals try (exfalso; omega)
    rw [hP] at em
    refine ⟨k + 1, by omega, by omega, weak [] [] ?_ ?_ ?_ rfl⟩
    ·(simp -dsimp only [↓RP, RQ, Nat.reduceMul, reduceIte, reduceCtorEq, Nat.reduceAdd, Nat.reduceEqDiff, Nat.reduceLT, Nat.reduceLeDiff, QV, em, hpc]); all_goals (try simp [QV, em, hpc])
    iterate 2 focus ((simp -dsimp only [↓RP, RQ, Nat.reduceMul, reduceIte, reduceCtorEq, Nat.reduceAdd, Nat.reduceEqDiff, Nat.reduceLT, Nat.reduceLeDiff, QV]); all_goals (try simp [QV]))
  ·have hkm : m = k := by omega
   have h12 := hm
   subst hkm
   have hml := mk_4095 w (Dg n t) hm
   have hll := MsL_len w m n t
   by_cases h0 : mk w (Dg n t) m = 0
   ·have e : MsL w m n (t + 1) = MsL w m n t := by rw [MsL_S, if_neg (fun h => h.2.1 h0)]
    have f0 := decide_eq_false (show ¬ (0 : Int) < ((mk w (Dg n t) m : Nat) : Int) by omega)
    (repeat' (first | with_reducible (first | apply splitVC_d <;> intro _ | apply splitVC <;> intro _) | ((with_reducible refine And.intro ?_ ?_); focus (first | exact True.intro | omega | (simp only [InK, ne_eq, and_true, true_and]; omega) | (and_intros <;> first | exact .inr trivial | exact Nat.le_refl _ | exact one1 _ | exact one5 _ _ _ _ _ | omega) | trivial)) | (simp -dsimp only [↓RP, RQ, Nat.reduceMul, reduceIte, reduceCtorEq, Nat.reduceAdd, Nat.reduceEqDiff, Nat.reduceLT, Nat.reduceLeDiff, f0, getD_app, app_len, nsv, Try.results85, QW, Try.results79])))
    all_goals try (exfalso; omega)
    (repeat' (first | with_reducible (first | apply splitVC_d <;> intro _ | apply splitVC <;> intro _) | ((with_reducible refine And.intro ?_ ?_); focus (first | exact True.intro | omega | (simp only [InK, ne_eq, and_true, true_and]; omega) | (and_intros <;> first | exact .inr trivial | exact Nat.le_refl _ | exact one1 _ | exact one5 _ _ _ _ _ | omega) | trivial)) | (simp -dsimp only [↓RP, RQ, Nat.reduceMul, reduceIte, reduceCtorEq, Nat.reduceAdd, Nat.reduceEqDiff, Nat.reduceLT, Nat.reduceLeDiff, getD_app, app_len, nsv, Try.results85, QW, Try.results79])))
    all_goals try (exfalso; omega)
    refine loop_vc (fun (c : Nat) => c ≤ n ∧ ∀ j, c ≤ j → j < n → Dg n t j = n) (fun c => ⟨[(0, .yld 5), (1, .ref false 1 (fun _ => .ref false 2 (fun j => rf n m w j))), (3, .ptr 6 0), (5, .val (.int .i64 ((c : Int) - 1)))], [(6, .cells 73 (pl (nxF n t c))), (5, .loop L .ready), (60, .rows 3 1 (MsL w m n (t + 1)).length (fun i _ => .val (.int .i64 ((MsL w m n (t + 1)).getD i 0 : Nat)))), (2, .cells 25 [.vec 60 (MsL w m n (t + 1)).length 1]), (0, .cells 69 [.ref false 2 (fun j => rf n m w j)])], 300⟩) (fun c => c) n ⟨Nat.le_refl _, fun j hj => by omega⟩ (weak [] [] ?_ ?_ ?_ rfl) fun c hc => ?_
    iterate 3 focus ((simp -dsimp only [↓RP, RQ, Nat.reduceMul, reduceIte, reduceCtorEq, Nat.reduceAdd, Nat.reduceEqDiff, Nat.reduceLT, Nat.reduceLeDiff, QV, nxF_n, MsL_0, app_len, getD_app, e]); all_goals (try simp [nxF_n, QV, MsL_0, app_len, getD_app, e]); all_goals first | exact growN _ _ | skip)
    obtain ⟨hc, hl⟩ := hc
    cases c with
    | zero =>
     have hlast := all_last hn1 ht hl
     (repeat' (first | with_reducible (first | apply splitVC_d <;> intro _ | apply splitVC <;> intro _) | ((with_reducible refine And.intro ?_ ?_); focus (first | exact True.intro | omega | (simp only [InK, ne_eq, and_true, true_and]; omega) | (and_intros <;> first | exact .inr trivial | exact Nat.le_refl _ | exact one1 _ | exact one5 _ _ _ _ _ | omega) | trivial)) | (simp -dsimp only [↓RP, RQ, Nat.reduceMul, reduceIte, reduceCtorEq, Nat.reduceAdd, Nat.reduceEqDiff, Nat.reduceLT, Nat.reduceLeDiff, getD_app, app_len, nsv, Try.results85, QW, Try.results79])))
     all_goals try (exfalso; omega)
     have hMl := MsL_len w m n (n ^ n)
     have hMx := fun x (h : x ∈ MsL w m n (n ^ n)) => MsL_lt hm h
     simp only [hlast]
     obtain ⟨M, hM⟩ : ∃ M, MsL w m n (n ^ n) = M := ⟨_, rfl⟩
     rw [hM] at hMl hMx ⊢
     (repeat' (first | with_reducible (first | apply splitVC_d <;> intro _ | apply splitVC <;> intro _) | ((with_reducible refine And.intro ?_ ?_); focus (first | exact True.intro | omega | (simp only [InK, ne_eq, and_true, true_and]; omega) | (and_intros <;> first | exact .inr trivial | exact Nat.le_refl _ | exact one1 _ | exact one5 _ _ _ _ _ | omega) | trivial)) | (simp -dsimp only [↓RP, RQ, Nat.reduceMul, reduceIte, reduceCtorEq, Nat.reduceAdd, Nat.reduceEqDiff, Nat.reduceLT, Nat.reduceLeDiff, getD_app, app_len, nsv, Try.results85, QW, Try.results79])))
     all_goals try (exfalso; omega)
     refine loop_vc (fun (y : Nat) => y ≤ m ∧ baseP M m = baseG M m y (m - y)) (fun y => ⟨[(1, .ptr 0 0), (3, .ptr 2 0), (53, .val (.int .i64 (m : Nat))), (54, .val (.int .i64 (y : Nat)))], [(2, .cells 25 [.vec 60 M.length 1]), (0, .cells 69 [.ref false 2 (fun j => rf n m w j)]), (60, .rows 3 1 M.length (fun i _ => .val (.int .i64 (M.getD i 0 : Nat))))], 400⟩) (fun y => m - y) 0 ⟨Nat.zero_le _, rfl⟩ (weak [] [] ?_ ?_ ?_) fun y hy => ?_
     iterate 3 focus ((simp -dsimp only [↓RP, RQ, Nat.reduceMul, reduceIte, reduceCtorEq, Nat.reduceAdd, Nat.reduceEqDiff, Nat.reduceLT, Nat.reduceLeDiff, QV]); all_goals (try simp [QV]))
     obtain ⟨hy, he⟩ := hy
     rw [he]
     by_cases hlt : y < m
     ·obtain ⟨z, hz⟩ : ∃ z, m - y = z + 1 := ⟨m - y - 1, by omega⟩
      have hrl := hit_len y M 0 m
      rw [hz, baseG_S]
      (repeat' (first | with_reducible (first | apply splitVC_d <;> intro _ | apply splitVC <;> intro _) | ((with_reducible refine And.intro ?_ ?_); focus (first | exact True.intro | omega | (simp only [InK, ne_eq, and_true, true_and]; omega) | (and_intros <;> first | exact .inr trivial | exact Nat.le_refl _ | exact one1 _ | exact one5 _ _ _ _ _ | omega) | trivial)) | (simp -dsimp only [↓RP, RQ, Nat.reduceMul, reduceIte, reduceCtorEq, Nat.reduceAdd, Nat.reduceEqDiff, Nat.reduceLT, Nat.reduceLeDiff, getD_app, app_len, nsv, Try.results85, QW, Try.results79])))
      all_goals try (exfalso; omega)
      refine callVC (c92 y M 0 m (by omega) (by omega) hm (by omega) hMx) (by (simp -dsimp only [↓RP, RQ, Nat.reduceMul, reduceIte, reduceCtorEq, Nat.reduceAdd, Nat.reduceEqDiff, Nat.reduceLT, Nat.reduceLeDiff, QV, nar, I]); all_goals (try simp [QV, Go.Sx.Sub, Go.Sx.SubL])) (by (simp -dsimp only [↓RP, RQ, Nat.reduceMul, reduceIte, reduceCtorEq, Nat.reduceAdd, Nat.reduceEqDiff, Nat.reduceLT, Nat.reduceLeDiff, nsv, B]); all_goals (try simp [QV])) ?_
      obtain ⟨r, hr⟩ : ∃ r, hitV y M 0 m = r := ⟨_, rfl⟩
      rw [hr] at hrl ⊢
      obtain ⟨rl, rb⟩ := r
      simp only at hrl
      cases rb with
      | true =>
       rw [if_pos rfl]
       (repeat' (first | with_reducible (first | apply splitVC_d <;> intro _ | apply splitVC <;> intro _) | ((with_reducible refine And.intro ?_ ?_); focus (first | exact True.intro | omega | (simp only [InK, ne_eq, and_true, true_and]; omega) | (and_intros <;> first | exact .inr trivial | exact Nat.le_refl _ | exact one1 _ | exact one5 _ _ _ _ _ | omega) | trivial)) | (simp -dsimp only [↓RP, RQ, Nat.reduceMul, reduceIte, reduceCtorEq, Nat.reduceAdd, Nat.reduceEqDiff, Nat.reduceLT, Nat.reduceLeDiff, getD_app, app_len, nsv, Try.results85, QW, Try.results79])))
       all_goals try (exfalso; omega)
       exact fun h => h
      | false =>
       rw [if_neg (by simp)]
       (repeat' (first | with_reducible (first | apply splitVC_d <;> intro _ | apply splitVC <;> intro _) | ((with_reducible refine And.intro ?_ ?_); focus (first | exact True.intro | omega | (simp only [InK, ne_eq, and_true, true_and]; omega) | (and_intros <;> first | exact .inr trivial | exact Nat.le_refl _ | exact one1 _ | exact one5 _ _ _ _ _ | omega) | trivial)) | (simp -dsimp only [↓RP, RQ, Nat.reduceMul, reduceIte, reduceCtorEq, Nat.reduceAdd, Nat.reduceEqDiff, Nat.reduceLT, Nat.reduceLeDiff, getD_app, app_len, nsv, Try.results85, QW, Try.results79])))
       all_goals try (exfalso; omega)
       refine ⟨y + 1, ⟨by omega, by rw [show m - (y + 1) = z by omega]⟩, by omega, weak [] [] ?_ ?_ ?_⟩
       iterate 3 focus ((simp -dsimp only [↓RP, RQ, Nat.reduceMul, reduceIte, reduceCtorEq, Nat.reduceAdd, Nat.reduceEqDiff, Nat.reduceLT, Nat.reduceLeDiff, QV]); all_goals (try simp [QV]))
     ·have e0 : m - y = 0 := by omega
      rw [e0, baseG_0]
      (repeat' (first | with_reducible (first | apply splitVC_d <;> intro _ | apply splitVC <;> intro _) | ((with_reducible refine And.intro ?_ ?_); focus (first | exact True.intro | omega | (simp only [InK, ne_eq, and_true, true_and]; omega) | (and_intros <;> first | exact .inr trivial | exact Nat.le_refl _ | exact one1 _ | exact one5 _ _ _ _ _ | omega) | trivial)) | (simp -dsimp only [↓RP, RQ, Nat.reduceMul, reduceIte, reduceCtorEq, Nat.reduceAdd, Nat.reduceEqDiff, Nat.reduceLT, Nat.reduceLeDiff, getD_app, app_len, nsv, Try.results85, QW, Try.results79])))
      all_goals try (exfalso; omega)
      refine loop_vc (fun (k : Nat) => k ≤ m) (fun k => ⟨[(1, .ptr 0 0), (11, .vec 61 k 1), (77, .val (.int .i64 (m : Nat))), (78, .val (.int .i64 (k : Nat)))], [(2, .cells 25 [.vec 60 M.length 1]), (0, .cells 69 [.ref false 2 (fun j => rf n m w j)]), (60, .rows 3 1 M.length (fun i _ => .val (.int .i64 (M.getD i 0 : Nat)))), (61, .rows 3 1 k (fun y _ => .val (.int .i64 ((upTo 0 k).getD y 0 : Nat))))], 500⟩) (fun k => m - k) 0 (Nat.zero_le _) (weak [(61, none)] [] ?_ ?_ ?_) fun k hk => ?_
      iterate 3 focus ((simp -dsimp only [↓RP, RQ, Nat.reduceMul, reduceIte, reduceCtorEq, Nat.reduceAdd, Nat.reduceEqDiff, Nat.reduceLT, Nat.reduceLeDiff, QV]); all_goals (try simp [QV]))
      by_cases hlt : k < m
      ·(repeat' (first | with_reducible (first | apply splitVC_d <;> intro _ | apply splitVC <;> intro _) | ((with_reducible refine And.intro ?_ ?_); focus (first | exact True.intro | omega | (simp only [InK, ne_eq, and_true, true_and]; omega) | (and_intros <;> first | exact .inr trivial | exact Nat.le_refl _ | exact one1 _ | exact one5 _ _ _ _ _ | omega) | trivial)) | (simp -dsimp only [↓RP, RQ, Nat.reduceMul, reduceIte, reduceCtorEq, Nat.reduceAdd, Nat.reduceEqDiff, Nat.reduceLT, Nat.reduceLeDiff, getD_app, app_len, nsv, Try.results85, QW, Try.results79])))
       all_goals try (exfalso; omega)
       refine ⟨k + 1, by omega, by omega, weak [(61, some 506)] [] ?_ ?_ ?_⟩
       ·(simp -dsimp only [↓RP, RQ, Nat.reduceMul, reduceIte, reduceCtorEq, Nat.reduceAdd, Nat.reduceEqDiff, Nat.reduceLT, Nat.reduceLeDiff, QV, upTo_app]); all_goals (try simp [QV, upTo_app])
       ·(simp -dsimp only [↓RP, RQ, Nat.reduceMul, reduceIte, reduceCtorEq, Nat.reduceAdd, Nat.reduceEqDiff, Nat.reduceLT, Nat.reduceLeDiff, QV, upTo_app]); all_goals (try simp [QV, upTo_app]); all_goals first | exact up_get0 k | skip
       ·(simp -dsimp only [↓RP, RQ, Nat.reduceMul, reduceIte, reduceCtorEq, Nat.reduceAdd, Nat.reduceEqDiff, Nat.reduceLT, Nat.reduceLeDiff, QV]); all_goals (try simp [QV])
      ·have hkm : m = k := by omega
       subst hkm
       (repeat' (first | with_reducible (first | apply splitVC_d <;> intro _ | apply splitVC <;> intro _) | ((with_reducible refine And.intro ?_ ?_); focus (first | exact True.intro | omega | (simp only [InK, ne_eq, and_true, true_and]; omega) | (and_intros <;> first | exact .inr trivial | exact Nat.le_refl _ | exact one1 _ | exact one5 _ _ _ _ _ | omega) | trivial)) | (simp -dsimp only [↓RP, RQ, Nat.reduceMul, reduceIte, reduceCtorEq, Nat.reduceAdd, Nat.reduceEqDiff, Nat.reduceLT, Nat.reduceLeDiff, getD_app, app_len, nsv, Try.results85, QW, Try.results79])))
       all_goals try (exfalso; omega)
       exact ⟨upTo_len _ _, by rw [upTo_len]; exact Nat.le_refl _⟩
    | succ c =>
     have hc5 : c < 5 := by omega
     have hcn : c < n := by omega
     have b := Dg_bd (n := n) (t := t) hcn
     have ec : ((c + 1 : Nat) : Int) - 1 = (c : Int) := by omega
     by_cases hd : Dg n t c = n
     ·have hdb : decide (Dg n t c = n) = true := decide_eq_true hd
      (repeat' (first | with_reducible (first | apply splitVC_d <;> intro _ | apply splitVC <;> intro _) | ((with_reducible refine And.intro ?_ ?_); focus (first | exact True.intro | omega | (simp only [InK, ne_eq, and_true, true_and]; omega) | (and_intros <;> first | exact .inr trivial | exact Nat.le_refl _ | exact one1 _ | exact one5 _ _ _ _ _ | omega) | trivial)) | (simp -dsimp only [↓RP, RQ, Nat.reduceMul, reduceIte, reduceCtorEq, Nat.reduceAdd, Nat.reduceEqDiff, Nat.reduceLT, Nat.reduceLeDiff, ec, pl_get (nxF n t (c + 1)) hc5, nxF_at, nxF_S hcn, hdb, getD_app, app_len, nsv, Try.results85, QW, Try.results79])))
      all_goals try (exfalso; omega)
      refine ⟨c, ⟨by omega, fun j h1 h2 => ?_⟩, by omega, weak [] [] ?_ ?_ ?_ rfl⟩
      ·by_cases e : j = c
       ·subst e; exact hd
       ·exact hl j (by omega) h2
      ·(simp -dsimp only [↓RP, RQ, Nat.reduceMul, reduceIte, reduceCtorEq, Nat.reduceAdd, Nat.reduceEqDiff, Nat.reduceLT, Nat.reduceLeDiff, QV]); all_goals (try (simp [QV])); all_goals (try omega)
      ·(simp -dsimp only [↓RP, RQ, Nat.reduceMul, reduceIte, reduceCtorEq, Nat.reduceAdd, Nat.reduceEqDiff, Nat.reduceLT, Nat.reduceLeDiff, QV, MsL_0, app_len, getD_app]); all_goals (try simp [QV, MsL_0, app_len, getD_app])
      ·(simp -dsimp only [↓RP, RQ, Nat.reduceMul, reduceIte, reduceCtorEq, Nat.reduceAdd, Nat.reduceEqDiff, Nat.reduceLT, Nat.reduceLeDiff, QV]); all_goals (try simp [QV])
     ·have hm := Dg_more hcn ht hd
      have hdb : decide (Dg n t c = n) = false := decide_eq_false hd
      (repeat' (first | with_reducible (first | apply splitVC_d <;> intro _ | apply splitVC <;> intro _) | ((with_reducible refine And.intro ?_ ?_); focus (first | exact True.intro | omega | (simp only [InK, ne_eq, and_true, true_and]; omega) | (and_intros <;> first | exact .inr trivial | exact Nat.le_refl _ | exact one1 _ | exact one5 _ _ _ _ _ | omega) | trivial)) | (simp -dsimp only [↓RP, RQ, Nat.reduceMul, reduceIte, reduceCtorEq, Nat.reduceAdd, Nat.reduceEqDiff, Nat.reduceLT, Nat.reduceLeDiff, ec, pl_get (nxF n t (c + 1)) hc5, nxF_at, hdb, nxF_up hcn (fun j h1 h2 => hl j (by omega) h2) hd, getD_app, app_len, nsv, Try.results85, QW, Try.results79])))
      all_goals try (exfalso; omega)
      refine ⟨t + 1, hm, by omega, weak [] [] ?_ ?_ ?_ rfl⟩
      ·(simp -dsimp only [↓RP, RQ, Nat.reduceMul, reduceIte, reduceCtorEq, Nat.reduceAdd, Nat.reduceEqDiff, Nat.reduceLT, Nat.reduceLeDiff, QV]); all_goals (try simp [QV])
      ·(simp -dsimp only [↓RP, RQ, Nat.reduceMul, reduceIte, reduceCtorEq, Nat.reduceAdd, Nat.reduceEqDiff, Nat.reduceLT, Nat.reduceLeDiff, QV, MsL_0, app_len, getD_app]); all_goals (try simp [QV, MsL_0, app_len, getD_app])
      ·(simp -dsimp only [↓RP, RQ, Nat.reduceMul, reduceIte, reduceCtorEq, Nat.reduceAdd, Nat.reduceEqDiff, Nat.reduceLT, Nat.reduceLeDiff, QV]); all_goals (try simp [QV])
   ·have f0 := decide_eq_true (show (0 : Int) < ((mk w (Dg n t) m : Nat) : Int) by omega)
    (repeat' (first | with_reducible (first | apply splitVC_d <;> intro _ | apply splitVC <;> intro _) | ((with_reducible refine And.intro ?_ ?_); focus (first | exact True.intro | omega | (simp only [InK, ne_eq, and_true, true_and]; omega) | (and_intros <;> first | exact .inr trivial | exact Nat.le_refl _ | exact one1 _ | exact one5 _ _ _ _ _ | omega) | trivial)) | (simp -dsimp only [↓RP, RQ, Nat.reduceMul, reduceIte, reduceCtorEq, Nat.reduceAdd, Nat.reduceEqDiff, Nat.reduceLT, Nat.reduceLeDiff, f0, getD_app, app_len, nsv, Try.results85, QW, Try.results79])))
    all_goals try (exfalso; omega)
    refine callVC (c68 (MsL w m n t).length (fun i => ((MsL w m n t).getD i 0 : Nat)) (mk w (Dg n t) m : Nat) (by omega)) (by (simp -dsimp only [↓RP, RQ, Nat.reduceMul, reduceIte, reduceCtorEq, Nat.reduceAdd, Nat.reduceEqDiff, Nat.reduceLT, Nat.reduceLeDiff, QV, ints, I]); all_goals (try simp [QV, Go.Sx.Sub, Go.Sx.SubL])) (by (simp -dsimp only [↓RP, RQ, Nat.reduceMul, reduceIte, reduceCtorEq, Nat.reduceAdd, Nat.reduceEqDiff, Nat.reduceLT, Nat.reduceLeDiff, QX]); all_goals (try simp [QV])) ?_
    rw [any_mem]
    by_cases hmm : mk w (Dg n t) m ∈ MsL w m n t
    ·have e : MsL w m n (t + 1) = MsL w m n t := by rw [MsL_S, if_neg (fun h => h.2.2 hmm)]
     have f1 := decide_eq_true hmm
     (repeat' (first | with_reducible (first | apply splitVC_d <;> intro _ | apply splitVC <;> intro _) | ((with_reducible refine And.intro ?_ ?_); focus (first | exact True.intro | omega | (simp only [InK, ne_eq, and_true, true_and]; omega) | (and_intros <;> first | exact .inr trivial | exact Nat.le_refl _ | exact one1 _ | exact one5 _ _ _ _ _ | omega) | trivial)) | (simp -dsimp only [↓RP, RQ, Nat.reduceMul, reduceIte, reduceCtorEq, Nat.reduceAdd, Nat.reduceEqDiff, Nat.reduceLT, Nat.reduceLeDiff, f0, f1, getD_app, app_len, nsv, Try.results85, QW, Try.results79])))
     all_goals try (exfalso; omega)
     (repeat' (first | with_reducible (first | apply splitVC_d <;> intro _ | apply splitVC <;> intro _) | ((with_reducible refine And.intro ?_ ?_); focus (first | exact True.intro | omega | (simp only [InK, ne_eq, and_true, true_and]; omega) | (and_intros <;> first | exact .inr trivial | exact Nat.le_refl _ | exact one1 _ | exact one5 _ _ _ _ _ | omega) | trivial)) | (simp -dsimp only [↓RP, RQ, Nat.reduceMul, reduceIte, reduceCtorEq, Nat.reduceAdd, Nat.reduceEqDiff, Nat.reduceLT, Nat.reduceLeDiff, getD_app, app_len, nsv, Try.results85, QW, Try.results79])))
     all_goals try (exfalso; omega)
     refine loop_vc (fun (c : Nat) => c ≤ n ∧ ∀ j, c ≤ j → j < n → Dg n t j = n) (fun c => ⟨[(0, .yld 5), (1, .ref false 1 (fun _ => .ref false 2 (fun j => rf n m w j))), (3, .ptr 6 0), (5, .val (.int .i64 ((c : Int) - 1)))], [(6, .cells 73 (pl (nxF n t c))), (5, .loop L .ready), (60, .rows 3 1 (MsL w m n (t + 1)).length (fun i _ => .val (.int .i64 ((MsL w m n (t + 1)).getD i 0 : Nat)))), (2, .cells 25 [.vec 60 (MsL w m n (t + 1)).length 1]), (0, .cells 69 [.ref false 2 (fun j => rf n m w j)])], 300⟩) (fun c => c) n ⟨Nat.le_refl _, fun j hj => by omega⟩ (weak [] [] ?_ ?_ ?_ rfl) fun c hc => ?_
     iterate 3 focus ((simp -dsimp only [↓RP, RQ, Nat.reduceMul, reduceIte, reduceCtorEq, Nat.reduceAdd, Nat.reduceEqDiff, Nat.reduceLT, Nat.reduceLeDiff, QV, nxF_n, MsL_0, app_len, getD_app, e]); all_goals (try simp [nxF_n, QV, MsL_0, app_len, getD_app, e]); all_goals first | exact growN _ _ | skip)
     obtain ⟨hc, hl⟩ := hc
     cases c with
     | zero =>
      have hlast := all_last hn1 ht hl
      (repeat' (first | with_reducible (first | apply splitVC_d <;> intro _ | apply splitVC <;> intro _) | ((with_reducible refine And.intro ?_ ?_); focus (first | exact True.intro | omega | (simp only [InK, ne_eq, and_true, true_and]; omega) | (and_intros <;> first | exact .inr trivial | exact Nat.le_refl _ | exact one1 _ | exact one5 _ _ _ _ _ | omega) | trivial)) | (simp -dsimp only [↓RP, RQ, Nat.reduceMul, reduceIte, reduceCtorEq, Nat.reduceAdd, Nat.reduceEqDiff, Nat.reduceLT, Nat.reduceLeDiff, getD_app, app_len, nsv, Try.results85, QW, Try.results79])))
      all_goals try (exfalso; omega)
      have hMl := MsL_len w m n (n ^ n)
      have hMx := fun x (h : x ∈ MsL w m n (n ^ n)) => MsL_lt hm h
      simp only [hlast]
      obtain ⟨M, hM⟩ : ∃ M, MsL w m n (n ^ n) = M := ⟨_, rfl⟩
      rw [hM] at hMl hMx ⊢
      (repeat' (first | with_reducible (first | apply splitVC_d <;> intro _ | apply splitVC <;> intro _) | ((with_reducible refine And.intro ?_ ?_); focus (first | exact True.intro | omega | (simp only [InK, ne_eq, and_true, true_and]; omega) | (and_intros <;> first | exact .inr trivial | exact Nat.le_refl _ | exact one1 _ | exact one5 _ _ _ _ _ | omega) | trivial)) | (simp -dsimp only [↓RP, RQ, Nat.reduceMul, reduceIte, reduceCtorEq, Nat.reduceAdd, Nat.reduceEqDiff, Nat.reduceLT, Nat.reduceLeDiff, getD_app, app_len, nsv, Try.results85, QW, Try.results79])))
      all_goals try (exfalso; omega)
      refine loop_vc (fun (y : Nat) => y ≤ m ∧ baseP M m = baseG M m y (m - y)) (fun y => ⟨[(1, .ptr 0 0), (3, .ptr 2 0), (53, .val (.int .i64 (m : Nat))), (54, .val (.int .i64 (y : Nat)))], [(2, .cells 25 [.vec 60 M.length 1]), (0, .cells 69 [.ref false 2 (fun j => rf n m w j)]), (60, .rows 3 1 M.length (fun i _ => .val (.int .i64 (M.getD i 0 : Nat))))], 400⟩) (fun y => m - y) 0 ⟨Nat.zero_le _, rfl⟩ (weak [] [] ?_ ?_ ?_) fun y hy => ?_
      iterate 3 focus ((simp -dsimp only [↓RP, RQ, Nat.reduceMul, reduceIte, reduceCtorEq, Nat.reduceAdd, Nat.reduceEqDiff, Nat.reduceLT, Nat.reduceLeDiff, QV]); all_goals (try simp [QV]))
      obtain ⟨hy, he⟩ := hy
      rw [he]
      by_cases hlt : y < m
      ·obtain ⟨z, hz⟩ : ∃ z, m - y = z + 1 := ⟨m - y - 1, by omega⟩
       have hrl := hit_len y M 0 m
       rw [hz, baseG_S]
       (repeat' (first | with_reducible (first | apply splitVC_d <;> intro _ | apply splitVC <;> intro _) | ((with_reducible refine And.intro ?_ ?_); focus (first | exact True.intro | omega | (simp only [InK, ne_eq, and_true, true_and]; omega) | (and_intros <;> first | exact .inr trivial | exact Nat.le_refl _ | exact one1 _ | exact one5 _ _ _ _ _ | omega) | trivial)) | (simp -dsimp only [↓RP, RQ, Nat.reduceMul, reduceIte, reduceCtorEq, Nat.reduceAdd, Nat.reduceEqDiff, Nat.reduceLT, Nat.reduceLeDiff, getD_app, app_len, nsv, Try.results85, QW, Try.results79])))
       all_goals try (exfalso; omega)
       refine callVC (c92 y M 0 m (by omega) (by omega) hm (by omega) hMx) (by (simp -dsimp only [↓RP, RQ, Nat.reduceMul, reduceIte, reduceCtorEq, Nat.reduceAdd, Nat.reduceEqDiff, Nat.reduceLT, Nat.reduceLeDiff, QV, nar, I]); all_goals (try simp [QV, Go.Sx.Sub, Go.Sx.SubL])) (by (simp -dsimp only [↓RP, RQ, Nat.reduceMul, reduceIte, reduceCtorEq, Nat.reduceAdd, Nat.reduceEqDiff, Nat.reduceLT, Nat.reduceLeDiff, nsv, B]); all_goals (try simp [QV])) ?_
       obtain ⟨r, hr⟩ : ∃ r, hitV y M 0 m = r := ⟨_, rfl⟩
       rw [hr] at hrl ⊢
       obtain ⟨rl, rb⟩ := r
       simp only at hrl
       cases rb with
       | true =>
        rw [if_pos rfl]
        (repeat' (first | with_reducible (first | apply splitVC_d <;> intro _ | apply splitVC <;> intro _) | ((with_reducible refine And.intro ?_ ?_); focus (first | exact True.intro | omega | (simp only [InK, ne_eq, and_true, true_and]; omega) | (and_intros <;> first | exact .inr trivial | exact Nat.le_refl _ | exact one1 _ | exact one5 _ _ _ _ _ | omega) | trivial)) | (simp -dsimp only [↓RP, RQ, Nat.reduceMul, reduceIte, reduceCtorEq, Nat.reduceAdd, Nat.reduceEqDiff, Nat.reduceLT, Nat.reduceLeDiff, getD_app, app_len, nsv, Try.results85, QW, Try.results79])))
        all_goals try (exfalso; omega)
        exact fun h => h
       | false =>
        rw [if_neg (by simp)]
        (repeat' (first | with_reducible (first | apply splitVC_d <;> intro _ | apply splitVC <;> intro _) | ((with_reducible refine And.intro ?_ ?_); focus (first | exact True.intro | omega | (simp only [InK, ne_eq, and_true, true_and]; omega) | (and_intros <;> first | exact .inr trivial | exact Nat.le_refl _ | exact one1 _ | exact one5 _ _ _ _ _ | omega) | trivial)) | (simp -dsimp only [↓RP, RQ, Nat.reduceMul, reduceIte, reduceCtorEq, Nat.reduceAdd, Nat.reduceEqDiff, Nat.reduceLT, Nat.reduceLeDiff, getD_app, app_len, nsv, Try.results85, QW, Try.results79])))
        all_goals try (exfalso; omega)
        refine ⟨y + 1, ⟨by omega, by rw [show m - (y + 1) = z by omega]⟩, by omega, weak [] [] ?_ ?_ ?_⟩
        iterate 3 focus ((simp -dsimp only [↓RP, RQ, Nat.reduceMul, reduceIte, reduceCtorEq, Nat.reduceAdd, Nat.reduceEqDiff, Nat.reduceLT, Nat.reduceLeDiff, QV]); all_goals (try simp [QV]))
      ·have e0 : m - y = 0 := by omega
       rw [e0, baseG_0]
       (repeat' (first | with_reducible (first | apply splitVC_d <;> intro _ | apply splitVC <;> intro _) | ((with_reducible refine And.intro ?_ ?_); focus (first | exact True.intro | omega | (simp only [InK, ne_eq, and_true, true_and]; omega) | (and_intros <;> first | exact .inr trivial | exact Nat.le_refl _ | exact one1 _ | exact one5 _ _ _ _ _ | omega) | trivial)) | (simp -dsimp only [↓RP, RQ, Nat.reduceMul, reduceIte, reduceCtorEq, Nat.reduceAdd, Nat.reduceEqDiff, Nat.reduceLT, Nat.reduceLeDiff, getD_app, app_len, nsv, Try.results85, QW, Try.results79])))
       all_goals try (exfalso; omega)
       refine loop_vc (fun (k : Nat) => k ≤ m) (fun k => ⟨[(1, .ptr 0 0), (11, .vec 61 k 1), (77, .val (.int .i64 (m : Nat))), (78, .val (.int .i64 (k : Nat)))], [(2, .cells 25 [.vec 60 M.length 1]), (0, .cells 69 [.ref false 2 (fun j => rf n m w j)]), (60, .rows 3 1 M.length (fun i _ => .val (.int .i64 (M.getD i 0 : Nat)))), (61, .rows 3 1 k (fun y _ => .val (.int .i64 ((upTo 0 k).getD y 0 : Nat))))], 500⟩) (fun k => m - k) 0 (Nat.zero_le _) (weak [(61, none)] [] ?_ ?_ ?_) fun k hk => ?_
       iterate 3 focus ((simp -dsimp only [↓RP, RQ, Nat.reduceMul, reduceIte, reduceCtorEq, Nat.reduceAdd, Nat.reduceEqDiff, Nat.reduceLT, Nat.reduceLeDiff, QV]); all_goals (try simp [QV]))
       by_cases hlt : k < m
       ·(repeat' (first | with_reducible (first | apply splitVC_d <;> intro _ | apply splitVC <;> intro _) | ((with_reducible refine And.intro ?_ ?_); focus (first | exact True.intro | omega | (simp only [InK, ne_eq, and_true, true_and]; omega) | (and_intros <;> first | exact .inr trivial | exact Nat.le_refl _ | exact one1 _ | exact one5 _ _ _ _ _ | omega) | trivial)) | (simp -dsimp only [↓RP, RQ, Nat.reduceMul, reduceIte, reduceCtorEq, Nat.reduceAdd, Nat.reduceEqDiff, Nat.reduceLT, Nat.reduceLeDiff, getD_app, app_len, nsv, Try.results85, QW, Try.results79])))
        all_goals try (exfalso; omega)
        refine ⟨k + 1, by omega, by omega, weak [(61, some 506)] [] ?_ ?_ ?_⟩
        ·(simp -dsimp only [↓RP, RQ, Nat.reduceMul, reduceIte, reduceCtorEq, Nat.reduceAdd, Nat.reduceEqDiff, Nat.reduceLT, Nat.reduceLeDiff, QV, upTo_app]); all_goals (try simp [QV, upTo_app])
        ·(simp -dsimp only [↓RP, RQ, Nat.reduceMul, reduceIte, reduceCtorEq, Nat.reduceAdd, Nat.reduceEqDiff, Nat.reduceLT, Nat.reduceLeDiff, QV, upTo_app]); all_goals (try simp [QV, upTo_app]); all_goals first | exact up_get0 k | skip
        ·(simp -dsimp only [↓RP, RQ, Nat.reduceMul, reduceIte, reduceCtorEq, Nat.reduceAdd, Nat.reduceEqDiff, Nat.reduceLT, Nat.reduceLeDiff, QV]); all_goals (try simp [QV])
       ·have hkm : m = k := by omega
        subst hkm
        (repeat' (first | with_reducible (first | apply splitVC_d <;> intro _ | apply splitVC <;> intro _) | ((with_reducible refine And.intro ?_ ?_); focus (first | exact True.intro | omega | (simp only [InK, ne_eq, and_true, true_and]; omega) | (and_intros <;> first | exact .inr trivial | exact Nat.le_refl _ | exact one1 _ | exact one5 _ _ _ _ _ | omega) | trivial)) | (simp -dsimp only [↓RP, RQ, Nat.reduceMul, reduceIte, reduceCtorEq, Nat.reduceAdd, Nat.reduceEqDiff, Nat.reduceLT, Nat.reduceLeDiff, getD_app, app_len, nsv, Try.results85, QW, Try.results79])))
        all_goals try (exfalso; omega)
        exact ⟨upTo_len _ _, by rw [upTo_len]; exact Nat.le_refl _⟩
     | succ c =>
      have hc5 : c < 5 := by omega
      have hcn : c < n := by omega
      have b := Dg_bd (n := n) (t := t) hcn
      have ec : ((c + 1 : Nat) : Int) - 1 = (c : Int) := by omega
      by_cases hd : Dg n t c = n
      ·have hdb : decide (Dg n t c = n) = true := decide_eq_true hd
       (repeat' (first | with_reducible (first | apply splitVC_d <;> intro _ | apply splitVC <;> intro _) | ((with_reducible refine And.intro ?_ ?_); focus (first | exact True.intro | omega | (simp only [InK, ne_eq, and_true, true_and]; omega) | (and_intros <;> first | exact .inr trivial | exact Nat.le_refl _ | exact one1 _ | exact one5 _ _ _ _ _ | omega) | trivial)) | (simp -dsimp only [↓RP, RQ, Nat.reduceMul, reduceIte, reduceCtorEq, Nat.reduceAdd, Nat.reduceEqDiff, Nat.reduceLT, Nat.reduceLeDiff, ec, pl_get (nxF n t (c + 1)) hc5, nxF_at, nxF_S hcn, hdb, getD_app, app_len, nsv, Try.results85, QW, Try.results79])))
       all_goals try (exfalso; omega)
       refine ⟨c, ⟨by omega, fun j h1 h2 => ?_⟩, by omega, weak [] [] ?_ ?_ ?_ rfl⟩
       ·by_cases e : j = c
        ·subst e; exact hd
        ·exact hl j (by omega) h2
       ·(simp -dsimp only [↓RP, RQ, Nat.reduceMul, reduceIte, reduceCtorEq, Nat.reduceAdd, Nat.reduceEqDiff, Nat.reduceLT, Nat.reduceLeDiff, QV]); all_goals (try (simp [QV])); all_goals (try omega)
       ·(simp -dsimp only [↓RP, RQ, Nat.reduceMul, reduceIte, reduceCtorEq, Nat.reduceAdd, Nat.reduceEqDiff, Nat.reduceLT, Nat.reduceLeDiff, QV, MsL_0, app_len, getD_app]); all_goals (try simp [QV, MsL_0, app_len, getD_app])
       ·(simp -dsimp only [↓RP, RQ, Nat.reduceMul, reduceIte, reduceCtorEq, Nat.reduceAdd, Nat.reduceEqDiff, Nat.reduceLT, Nat.reduceLeDiff, QV]); all_goals (try simp [QV])
      ·have hm := Dg_more hcn ht hd
       have hdb : decide (Dg n t c = n) = false := decide_eq_false hd
       (repeat' (first | with_reducible (first | apply splitVC_d <;> intro _ | apply splitVC <;> intro _) | ((with_reducible refine And.intro ?_ ?_); focus (first | exact True.intro | omega | (simp only [InK, ne_eq, and_true, true_and]; omega) | (and_intros <;> first | exact .inr trivial | exact Nat.le_refl _ | exact one1 _ | exact one5 _ _ _ _ _ | omega) | trivial)) | (simp -dsimp only [↓RP, RQ, Nat.reduceMul, reduceIte, reduceCtorEq, Nat.reduceAdd, Nat.reduceEqDiff, Nat.reduceLT, Nat.reduceLeDiff, ec, pl_get (nxF n t (c + 1)) hc5, nxF_at, hdb, nxF_up hcn (fun j h1 h2 => hl j (by omega) h2) hd, getD_app, app_len, nsv, Try.results85, QW, Try.results79])))
       all_goals try (exfalso; omega)
       refine ⟨t + 1, hm, by omega, weak [] [] ?_ ?_ ?_ rfl⟩
       ·(simp -dsimp only [↓RP, RQ, Nat.reduceMul, reduceIte, reduceCtorEq, Nat.reduceAdd, Nat.reduceEqDiff, Nat.reduceLT, Nat.reduceLeDiff, QV]); all_goals (try simp [QV])
       ·(simp -dsimp only [↓RP, RQ, Nat.reduceMul, reduceIte, reduceCtorEq, Nat.reduceAdd, Nat.reduceEqDiff, Nat.reduceLT, Nat.reduceLeDiff, QV, MsL_0, app_len, getD_app]); all_goals (try simp [QV, MsL_0, app_len, getD_app])
       ·(simp -dsimp only [↓RP, RQ, Nat.reduceMul, reduceIte, reduceCtorEq, Nat.reduceAdd, Nat.reduceEqDiff, Nat.reduceLT, Nat.reduceLeDiff, QV]); all_goals (try simp [QV])
    ·have e : MsL w m n (t + 1) = MsL w m n t ++ [mk w (Dg n t) m] := by rw [MsL_S, if_pos ⟨hok, h0, hmm⟩]
     have f1 := decide_eq_false hmm
     (repeat' (first | with_reducible (first | apply splitVC_d <;> intro _ | apply splitVC <;> intro _) | ((with_reducible refine And.intro ?_ ?_); focus (first | exact True.intro | omega | (simp only [InK, ne_eq, and_true, true_and]; omega) | (and_intros <;> first | exact .inr trivial | exact Nat.le_refl _ | exact one1 _ | exact one5 _ _ _ _ _ | omega) | trivial)) | (simp -dsimp only [↓RP, RQ, Nat.reduceMul, reduceIte, reduceCtorEq, Nat.reduceAdd, Nat.reduceEqDiff, Nat.reduceLT, Nat.reduceLeDiff, f0, f1, getD_app, app_len, nsv, Try.results85, QW, Try.results79])))
     all_goals try (exfalso; omega)
     (repeat' (first | with_reducible (first | apply splitVC_d <;> intro _ | apply splitVC <;> intro _) | ((with_reducible refine And.intro ?_ ?_); focus (first | exact True.intro | omega | (simp only [InK, ne_eq, and_true, true_and]; omega) | (and_intros <;> first | exact .inr trivial | exact Nat.le_refl _ | exact one1 _ | exact one5 _ _ _ _ _ | omega) | trivial)) | (simp -dsimp only [↓RP, RQ, Nat.reduceMul, reduceIte, reduceCtorEq, Nat.reduceAdd, Nat.reduceEqDiff, Nat.reduceLT, Nat.reduceLeDiff, getD_app, app_len, nsv, Try.results85, QW, Try.results79])))
     all_goals try (exfalso; omega)
     refine loop_vc (fun (c : Nat) => c ≤ n ∧ ∀ j, c ≤ j → j < n → Dg n t j = n) (fun c => ⟨[(0, .yld 5), (1, .ref false 1 (fun _ => .ref false 2 (fun j => rf n m w j))), (3, .ptr 6 0), (5, .val (.int .i64 ((c : Int) - 1)))], [(6, .cells 73 (pl (nxF n t c))), (5, .loop L .ready), (60, .rows 3 1 (MsL w m n (t + 1)).length (fun i _ => .val (.int .i64 ((MsL w m n (t + 1)).getD i 0 : Nat)))), (2, .cells 25 [.vec 60 (MsL w m n (t + 1)).length 1]), (0, .cells 69 [.ref false 2 (fun j => rf n m w j)])], 300⟩) (fun c => c) n ⟨Nat.le_refl _, fun j hj => by omega⟩ (weak [(60, some 132)] [] ?_ ?_ ?_ rfl) fun c hc => ?_
     iterate 3 focus ((simp -dsimp only [↓RP, RQ, Nat.reduceMul, reduceIte, reduceCtorEq, Nat.reduceAdd, Nat.reduceEqDiff, Nat.reduceLT, Nat.reduceLeDiff, QV, nxF_n, MsL_0, app_len, getD_app, e]); all_goals (try simp [nxF_n, QV, MsL_0, app_len, getD_app, e]); all_goals first | exact growN _ _ | skip)
     obtain ⟨hc, hl⟩ := hc
     cases c with
     | zero =>
      have hlast := all_last hn1 ht hl
      (repeat' (first | with_reducible (first | apply splitVC_d <;> intro _ | apply splitVC <;> intro _) | ((with_reducible refine And.intro ?_ ?_); focus (first | exact True.intro | omega | (simp only [InK, ne_eq, and_true, true_and]; omega) | (and_intros <;> first | exact .inr trivial | exact Nat.le_refl _ | exact one1 _ | exact one5 _ _ _ _ _ | omega) | trivial)) | (simp -dsimp only [↓RP, RQ, Nat.reduceMul, reduceIte, reduceCtorEq, Nat.reduceAdd, Nat.reduceEqDiff, Nat.reduceLT, Nat.reduceLeDiff, getD_app, app_len, nsv, Try.results85, QW, Try.results79])))
      all_goals try (exfalso; omega)
      have hMl := MsL_len w m n (n ^ n)
      have hMx := fun x (h : x ∈ MsL w m n (n ^ n)) => MsL_lt hm h
      simp only [hlast]
      obtain ⟨M, hM⟩ : ∃ M, MsL w m n (n ^ n) = M := ⟨_, rfl⟩
      rw [hM] at hMl hMx ⊢
      (repeat' (first | with_reducible (first | apply splitVC_d <;> intro _ | apply splitVC <;> intro _) | ((with_reducible refine And.intro ?_ ?_); focus (first | exact True.intro | omega | (simp only [InK, ne_eq, and_true, true_and]; omega) | (and_intros <;> first | exact .inr trivial | exact Nat.le_refl _ | exact one1 _ | exact one5 _ _ _ _ _ | omega) | trivial)) | (simp -dsimp only [↓RP, RQ, Nat.reduceMul, reduceIte, reduceCtorEq, Nat.reduceAdd, Nat.reduceEqDiff, Nat.reduceLT, Nat.reduceLeDiff, getD_app, app_len, nsv, Try.results85, QW, Try.results79])))
      all_goals try (exfalso; omega)
      refine loop_vc (fun (y : Nat) => y ≤ m ∧ baseP M m = baseG M m y (m - y)) (fun y => ⟨[(1, .ptr 0 0), (3, .ptr 2 0), (53, .val (.int .i64 (m : Nat))), (54, .val (.int .i64 (y : Nat)))], [(2, .cells 25 [.vec 60 M.length 1]), (0, .cells 69 [.ref false 2 (fun j => rf n m w j)]), (60, .rows 3 1 M.length (fun i _ => .val (.int .i64 (M.getD i 0 : Nat))))], 400⟩) (fun y => m - y) 0 ⟨Nat.zero_le _, rfl⟩ (weak [] [] ?_ ?_ ?_) fun y hy => ?_
      iterate 3 focus ((simp -dsimp only [↓RP, RQ, Nat.reduceMul, reduceIte, reduceCtorEq, Nat.reduceAdd, Nat.reduceEqDiff, Nat.reduceLT, Nat.reduceLeDiff, QV]); all_goals (try simp [QV]))
      obtain ⟨hy, he⟩ := hy
      rw [he]
      by_cases hlt : y < m
      ·obtain ⟨z, hz⟩ : ∃ z, m - y = z + 1 := ⟨m - y - 1, by omega⟩
       have hrl := hit_len y M 0 m
       rw [hz, baseG_S]
       (repeat' (first | with_reducible (first | apply splitVC_d <;> intro _ | apply splitVC <;> intro _) | ((with_reducible refine And.intro ?_ ?_); focus (first | exact True.intro | omega | (simp only [InK, ne_eq, and_true, true_and]; omega) | (and_intros <;> first | exact .inr trivial | exact Nat.le_refl _ | exact one1 _ | exact one5 _ _ _ _ _ | omega) | trivial)) | (simp -dsimp only [↓RP, RQ, Nat.reduceMul, reduceIte, reduceCtorEq, Nat.reduceAdd, Nat.reduceEqDiff, Nat.reduceLT, Nat.reduceLeDiff, getD_app, app_len, nsv, Try.results85, QW, Try.results79])))
       all_goals try (exfalso; omega)
       refine callVC (c92 y M 0 m (by omega) (by omega) hm (by omega) hMx) (by (simp -dsimp only [↓RP, RQ, Nat.reduceMul, reduceIte, reduceCtorEq, Nat.reduceAdd, Nat.reduceEqDiff, Nat.reduceLT, Nat.reduceLeDiff, QV, nar, I]); all_goals (try simp [QV, Go.Sx.Sub, Go.Sx.SubL])) (by (simp -dsimp only [↓RP, RQ, Nat.reduceMul, reduceIte, reduceCtorEq, Nat.reduceAdd, Nat.reduceEqDiff, Nat.reduceLT, Nat.reduceLeDiff, nsv, B]); all_goals (try simp [QV])) ?_
       obtain ⟨r, hr⟩ : ∃ r, hitV y M 0 m = r := ⟨_, rfl⟩
       rw [hr] at hrl ⊢
       obtain ⟨rl, rb⟩ := r
       simp only at hrl
       cases rb with
       | true =>
        rw [if_pos rfl]
        (repeat' (first | with_reducible (first | apply splitVC_d <;> intro _ | apply splitVC <;> intro _) | ((with_reducible refine And.intro ?_ ?_); focus (first | exact True.intro | omega | (simp only [InK, ne_eq, and_true, true_and]; omega) | (and_intros <;> first | exact .inr trivial | exact Nat.le_refl _ | exact one1 _ | exact one5 _ _ _ _ _ | omega) | trivial)) | (simp -dsimp only [↓RP, RQ, Nat.reduceMul, reduceIte, reduceCtorEq, Nat.reduceAdd, Nat.reduceEqDiff, Nat.reduceLT, Nat.reduceLeDiff, getD_app, app_len, nsv, Try.results85, QW, Try.results79])))
        all_goals try (exfalso; omega)
        exact fun h => h
       | false =>
        rw [if_neg (by simp)]
        (repeat' (first | with_reducible (first | apply splitVC_d <;> intro _ | apply splitVC <;> intro _) | ((with_reducible refine And.intro ?_ ?_); focus (first | exact True.intro | omega | (simp only [InK, ne_eq, and_true, true_and]; omega) | (and_intros <;> first | exact .inr trivial | exact Nat.le_refl _ | exact one1 _ | exact one5 _ _ _ _ _ | omega) | trivial)) | (simp -dsimp only [↓RP, RQ, Nat.reduceMul, reduceIte, reduceCtorEq, Nat.reduceAdd, Nat.reduceEqDiff, Nat.reduceLT, Nat.reduceLeDiff, getD_app, app_len, nsv, Try.results85, QW, Try.results79])))
        all_goals try (exfalso; omega)
        refine ⟨y + 1, ⟨by omega, by rw [show m - (y + 1) = z by omega]⟩, by omega, weak [] [] ?_ ?_ ?_⟩
        iterate 3 focus ((simp -dsimp only [↓RP, RQ, Nat.reduceMul, reduceIte, reduceCtorEq, Nat.reduceAdd, Nat.reduceEqDiff, Nat.reduceLT, Nat.reduceLeDiff, QV]); all_goals (try simp [QV]))
      ·have e0 : m - y = 0 := by omega
       rw [e0, baseG_0]
       (repeat' (first | with_reducible (first | apply splitVC_d <;> intro _ | apply splitVC <;> intro _) | ((with_reducible refine And.intro ?_ ?_); focus (first | exact True.intro | omega | (simp only [InK, ne_eq, and_true, true_and]; omega) | (and_intros <;> first | exact .inr trivial | exact Nat.le_refl _ | exact one1 _ | exact one5 _ _ _ _ _ | omega) | trivial)) | (simp -dsimp only [↓RP, RQ, Nat.reduceMul, reduceIte, reduceCtorEq, Nat.reduceAdd, Nat.reduceEqDiff, Nat.reduceLT, Nat.reduceLeDiff, getD_app, app_len, nsv, Try.results85, QW, Try.results79])))
       all_goals try (exfalso; omega)
       refine loop_vc (fun (k : Nat) => k ≤ m) (fun k => ⟨[(1, .ptr 0 0), (11, .vec 61 k 1), (77, .val (.int .i64 (m : Nat))), (78, .val (.int .i64 (k : Nat)))], [(2, .cells 25 [.vec 60 M.length 1]), (0, .cells 69 [.ref false 2 (fun j => rf n m w j)]), (60, .rows 3 1 M.length (fun i _ => .val (.int .i64 (M.getD i 0 : Nat)))), (61, .rows 3 1 k (fun y _ => .val (.int .i64 ((upTo 0 k).getD y 0 : Nat))))], 500⟩) (fun k => m - k) 0 (Nat.zero_le _) (weak [(61, none)] [] ?_ ?_ ?_) fun k hk => ?_
       iterate 3 focus ((simp -dsimp only [↓RP, RQ, Nat.reduceMul, reduceIte, reduceCtorEq, Nat.reduceAdd, Nat.reduceEqDiff, Nat.reduceLT, Nat.reduceLeDiff, QV]); all_goals (try simp [QV]))
       by_cases hlt : k < m
       ·(repeat' (first | with_reducible (first | apply splitVC_d <;> intro _ | apply splitVC <;> intro _) | ((with_reducible refine And.intro ?_ ?_); focus (first | exact True.intro | omega | (simp only [InK, ne_eq, and_true, true_and]; omega) | (and_intros <;> first | exact .inr trivial | exact Nat.le_refl _ | exact one1 _ | exact one5 _ _ _ _ _ | omega) | trivial)) | (simp -dsimp only [↓RP, RQ, Nat.reduceMul, reduceIte, reduceCtorEq, Nat.reduceAdd, Nat.reduceEqDiff, Nat.reduceLT, Nat.reduceLeDiff, getD_app, app_len, nsv, Try.results85, QW, Try.results79])))
        all_goals try (exfalso; omega)
        refine ⟨k + 1, by omega, by omega, weak [(61, some 506)] [] ?_ ?_ ?_⟩
        ·(simp -dsimp only [↓RP, RQ, Nat.reduceMul, reduceIte, reduceCtorEq, Nat.reduceAdd, Nat.reduceEqDiff, Nat.reduceLT, Nat.reduceLeDiff, QV, upTo_app]); all_goals (try simp [QV, upTo_app])
        ·(simp -dsimp only [↓RP, RQ, Nat.reduceMul, reduceIte, reduceCtorEq, Nat.reduceAdd, Nat.reduceEqDiff, Nat.reduceLT, Nat.reduceLeDiff, QV, upTo_app]); all_goals (try simp [QV, upTo_app]); all_goals first | exact up_get0 k | skip
        ·(simp -dsimp only [↓RP, RQ, Nat.reduceMul, reduceIte, reduceCtorEq, Nat.reduceAdd, Nat.reduceEqDiff, Nat.reduceLT, Nat.reduceLeDiff, QV]); all_goals (try simp [QV])
       ·have hkm : m = k := by omega
        subst hkm
        (repeat' (first | with_reducible (first | apply splitVC_d <;> intro _ | apply splitVC <;> intro _) | ((with_reducible refine And.intro ?_ ?_); focus (first | exact True.intro | omega | (simp only [InK, ne_eq, and_true, true_and]; omega) | (and_intros <;> first | exact .inr trivial | exact Nat.le_refl _ | exact one1 _ | exact one5 _ _ _ _ _ | omega) | trivial)) | (simp -dsimp only [↓RP, RQ, Nat.reduceMul, reduceIte, reduceCtorEq, Nat.reduceAdd, Nat.reduceEqDiff, Nat.reduceLT, Nat.reduceLeDiff, getD_app, app_len, nsv, Try.results85, QW, Try.results79])))
        all_goals try (exfalso; omega)
        exact ⟨upTo_len _ _, by rw [upTo_len]; exact Nat.le_refl _⟩
     | succ c =>
      have hc5 : c < 5 := by omega
      have hcn : c < n := by omega
      have b := Dg_bd (n := n) (t := t) hcn
      have ec : ((c + 1 : Nat) : Int) - 1 = (c : Int) := by omega
      by_cases hd : Dg n t c = n
      ·have hdb : decide (Dg n t c = n) = true := decide_eq_true hd
       (repeat' (first | with_reducible (first | apply splitVC_d <;> intro _ | apply splitVC <;> intro _) | ((with_reducible refine And.intro ?_ ?_); focus (first | exact True.intro | omega | (simp only [InK, ne_eq, and_true, true_and]; omega) | (and_intros <;> first | exact .inr trivial | exact Nat.le_refl _ | exact one1 _ | exact one5 _ _ _ _ _ | omega) | trivial)) | (simp -dsimp only [↓RP, RQ, Nat.reduceMul, reduceIte, reduceCtorEq, Nat.reduceAdd, Nat.reduceEqDiff, Nat.reduceLT, Nat.reduceLeDiff, ec, pl_get (nxF n t (c + 1)) hc5, nxF_at, nxF_S hcn, hdb, getD_app, app_len, nsv, Try.results85, QW, Try.results79])))
       all_goals try (exfalso; omega)
       refine ⟨c, ⟨by omega, fun j h1 h2 => ?_⟩, by omega, weak [] [] ?_ ?_ ?_ rfl⟩
       ·by_cases e : j = c
        ·subst e; exact hd
        ·exact hl j (by omega) h2
       ·(simp -dsimp only [↓RP, RQ, Nat.reduceMul, reduceIte, reduceCtorEq, Nat.reduceAdd, Nat.reduceEqDiff, Nat.reduceLT, Nat.reduceLeDiff, QV]); all_goals (try (simp [QV])); all_goals (try omega)
       ·(simp -dsimp only [↓RP, RQ, Nat.reduceMul, reduceIte, reduceCtorEq, Nat.reduceAdd, Nat.reduceEqDiff, Nat.reduceLT, Nat.reduceLeDiff, QV, MsL_0, app_len, getD_app]); all_goals (try simp [QV, MsL_0, app_len, getD_app])
       ·(simp -dsimp only [↓RP, RQ, Nat.reduceMul, reduceIte, reduceCtorEq, Nat.reduceAdd, Nat.reduceEqDiff, Nat.reduceLT, Nat.reduceLeDiff, QV]); all_goals (try simp [QV])
      ·have hm := Dg_more hcn ht hd
       have hdb : decide (Dg n t c = n) = false := decide_eq_false hd
       (repeat' (first | with_reducible (first | apply splitVC_d <;> intro _ | apply splitVC <;> intro _) | ((with_reducible refine And.intro ?_ ?_); focus (first | exact True.intro | omega | (simp only [InK, ne_eq, and_true, true_and]; omega) | (and_intros <;> first | exact .inr trivial | exact Nat.le_refl _ | exact one1 _ | exact one5 _ _ _ _ _ | omega) | trivial)) | (simp -dsimp only [↓RP, RQ, Nat.reduceMul, reduceIte, reduceCtorEq, Nat.reduceAdd, Nat.reduceEqDiff, Nat.reduceLT, Nat.reduceLeDiff, ec, pl_get (nxF n t (c + 1)) hc5, nxF_at, hdb, nxF_up hcn (fun j h1 h2 => hl j (by omega) h2) hd, getD_app, app_len, nsv, Try.results85, QW, Try.results79])))
       all_goals try (exfalso; omega)
       refine ⟨t + 1, hm, by omega, weak [] [] ?_ ?_ ?_ rfl⟩
       ·(simp -dsimp only [↓RP, RQ, Nat.reduceMul, reduceIte, reduceCtorEq, Nat.reduceAdd, Nat.reduceEqDiff, Nat.reduceLT, Nat.reduceLeDiff, QV]); all_goals (try simp [QV])
       ·(simp -dsimp only [↓RP, RQ, Nat.reduceMul, reduceIte, reduceCtorEq, Nat.reduceAdd, Nat.reduceEqDiff, Nat.reduceLT, Nat.reduceLeDiff, QV, MsL_0, app_len, getD_app]); all_goals (try simp [QV, MsL_0, app_len, getD_app])
       ·(simp -dsimp only [↓RP, RQ, Nat.reduceMul, reduceIte, reduceCtorEq, Nat.reduceAdd, Nat.reduceEqDiff, Nat.reduceLT, Nat.reduceLeDiff, QV]); all_goals (try simp [QV])
 | false =>
  have e : MsL w m n (t + 1) = MsL w m n t := by rw [MsL_S, if_neg (by rw [hok]; simp)]
  (repeat' (first | with_reducible (first | apply splitVC_d <;> intro _ | apply splitVC <;> intro _) | ((with_reducible refine And.intro ?_ ?_); focus (first | exact True.intro | omega | (simp only [InK, ne_eq, and_true, true_and]; omega) | (and_intros <;> first | exact .inr trivial | exact Nat.le_refl _ | exact one1 _ | exact one5 _ _ _ _ _ | omega) | trivial)) | (simp -dsimp only [↓RP, RQ, Nat.reduceMul, reduceIte, reduceCtorEq, Nat.reduceAdd, Nat.reduceEqDiff, Nat.reduceLT, Nat.reduceLeDiff, eq5_fin, hok, getD_app, app_len, nsv, Try.results85, QW, Try.results79])))
  all_goals try (exfalso; omega)
  refine loop_vc (fun (c : Nat) => c ≤ n ∧ ∀ j, c ≤ j → j < n → Dg n t j = n) (fun c => ⟨[(0, .yld 5), (1, .ref false 1 (fun _ => .ref false 2 (fun j => rf n m w j))), (3, .ptr 6 0), (5, .val (.int .i64 ((c : Int) - 1)))], [(6, .cells 73 (pl (nxF n t c))), (5, .loop L .ready), (60, .rows 3 1 (MsL w m n (t + 1)).length (fun i _ => .val (.int .i64 ((MsL w m n (t + 1)).getD i 0 : Nat)))), (2, .cells 25 [.vec 60 (MsL w m n (t + 1)).length 1]), (0, .cells 69 [.ref false 2 (fun j => rf n m w j)])], 300⟩) (fun c => c) n ⟨Nat.le_refl _, fun j hj => by omega⟩ (weak [] [] ?_ ?_ ?_ rfl) fun c hc => ?_
  iterate 3 focus ((simp -dsimp only [↓RP, RQ, Nat.reduceMul, reduceIte, reduceCtorEq, Nat.reduceAdd, Nat.reduceEqDiff, Nat.reduceLT, Nat.reduceLeDiff, QV, nxF_n, MsL_0, app_len, getD_app, e]); all_goals (try simp [nxF_n, QV, MsL_0, app_len, getD_app, e]); all_goals first | exact growN _ _ | skip)
  obtain ⟨hc, hl⟩ := hc
  cases c with
  | zero =>
   have hlast := all_last hn1 ht hl
   (repeat' (first | with_reducible (first | apply splitVC_d <;> intro _ | apply splitVC <;> intro _) | ((with_reducible refine And.intro ?_ ?_); focus (first | exact True.intro | omega | (simp only [InK, ne_eq, and_true, true_and]; omega) | (and_intros <;> first | exact .inr trivial | exact Nat.le_refl _ | exact one1 _ | exact one5 _ _ _ _ _ | omega) | trivial)) | (simp -dsimp only [↓RP, RQ, Nat.reduceMul, reduceIte, reduceCtorEq, Nat.reduceAdd, Nat.reduceEqDiff, Nat.reduceLT, Nat.reduceLeDiff, getD_app, app_len, nsv, Try.results85, QW, Try.results79])))
   all_goals try (exfalso; omega)
   have hMl := MsL_len w m n (n ^ n)
   have hMx := fun x (h : x ∈ MsL w m n (n ^ n)) => MsL_lt hm h
   simp only [hlast]
   obtain ⟨M, hM⟩ : ∃ M, MsL w m n (n ^ n) = M := ⟨_, rfl⟩
   rw [hM] at hMl hMx ⊢
   (repeat' (first | with_reducible (first | apply splitVC_d <;> intro _ | apply splitVC <;> intro _) | ((with_reducible refine And.intro ?_ ?_); focus (first | exact True.intro | omega | (simp only [InK, ne_eq, and_true, true_and]; omega) | (and_intros <;> first | exact .inr trivial | exact Nat.le_refl _ | exact one1 _ | exact one5 _ _ _ _ _ | omega) | trivial)) | (simp -dsimp only [↓RP, RQ, Nat.reduceMul, reduceIte, reduceCtorEq, Nat.reduceAdd, Nat.reduceEqDiff, Nat.reduceLT, Nat.reduceLeDiff, getD_app, app_len, nsv, Try.results85, QW, Try.results79])))
   all_goals try (exfalso; omega)
   refine loop_vc (fun (y : Nat) => y ≤ m ∧ baseP M m = baseG M m y (m - y)) (fun y => ⟨[(1, .ptr 0 0), (3, .ptr 2 0), (53, .val (.int .i64 (m : Nat))), (54, .val (.int .i64 (y : Nat)))], [(2, .cells 25 [.vec 60 M.length 1]), (0, .cells 69 [.ref false 2 (fun j => rf n m w j)]), (60, .rows 3 1 M.length (fun i _ => .val (.int .i64 (M.getD i 0 : Nat))))], 400⟩) (fun y => m - y) 0 ⟨Nat.zero_le _, rfl⟩ (weak [] [] ?_ ?_ ?_) fun y hy => ?_
   iterate 3 focus ((simp -dsimp only [↓RP, RQ, Nat.reduceMul, reduceIte, reduceCtorEq, Nat.reduceAdd, Nat.reduceEqDiff, Nat.reduceLT, Nat.reduceLeDiff, QV]); all_goals (try simp [QV]))
   obtain ⟨hy, he⟩ := hy
   rw [he]
   by_cases hlt : y < m
   ·obtain ⟨z, hz⟩ : ∃ z, m - y = z + 1 := ⟨m - y - 1, by omega⟩
    have hrl := hit_len y M 0 m
    rw [hz, baseG_S]
    (repeat' (first | with_reducible (first | apply splitVC_d <;> intro _ | apply splitVC <;> intro _) | ((with_reducible refine And.intro ?_ ?_); focus (first | exact True.intro | omega | (simp only [InK, ne_eq, and_true, true_and]; omega) | (and_intros <;> first | exact .inr trivial | exact Nat.le_refl _ | exact one1 _ | exact one5 _ _ _ _ _ | omega) | trivial)) | (simp -dsimp only [↓RP, RQ, Nat.reduceMul, reduceIte, reduceCtorEq, Nat.reduceAdd, Nat.reduceEqDiff, Nat.reduceLT, Nat.reduceLeDiff, getD_app, app_len, nsv, Try.results85, QW, Try.results79])))
    all_goals try (exfalso; omega)
    refine callVC (c92 y M 0 m (by omega) (by omega) hm (by omega) hMx) (by (simp -dsimp only [↓RP, RQ, Nat.reduceMul, reduceIte, reduceCtorEq, Nat.reduceAdd, Nat.reduceEqDiff, Nat.reduceLT, Nat.reduceLeDiff, QV, nar, I]); all_goals (try simp [QV, Go.Sx.Sub, Go.Sx.SubL])) (by (simp -dsimp only [↓RP, RQ, Nat.reduceMul, reduceIte, reduceCtorEq, Nat.reduceAdd, Nat.reduceEqDiff, Nat.reduceLT, Nat.reduceLeDiff, nsv, B]); all_goals (try simp [QV])) ?_
    obtain ⟨r, hr⟩ : ∃ r, hitV y M 0 m = r := ⟨_, rfl⟩
    rw [hr] at hrl ⊢
    obtain ⟨rl, rb⟩ := r
    simp only at hrl
    cases rb with
    | true =>
     rw [if_pos rfl]
     (repeat' (first | with_reducible (first | apply splitVC_d <;> intro _ | apply splitVC <;> intro _) | ((with_reducible refine And.intro ?_ ?_); focus (first | exact True.intro | omega | (simp only [InK, ne_eq, and_true, true_and]; omega) | (and_intros <;> first | exact .inr trivial | exact Nat.le_refl _ | exact one1 _ | exact one5 _ _ _ _ _ | omega) | trivial)) | (simp -dsimp only [↓RP, RQ, Nat.reduceMul, reduceIte, reduceCtorEq, Nat.reduceAdd, Nat.reduceEqDiff, Nat.reduceLT, Nat.reduceLeDiff, getD_app, app_len, nsv, Try.results85, QW, Try.results79])))
     all_goals try (exfalso; omega)
     exact fun h => h
    | false =>
     rw [if_neg (by simp)]
     (repeat' (first | with_reducible (first | apply splitVC_d <;> intro _ | apply splitVC <;> intro _) | ((with_reducible refine And.intro ?_ ?_); focus (first | exact True.intro | omega | (simp only [InK, ne_eq, and_true, true_and]; omega) | (and_intros <;> first | exact .inr trivial | exact Nat.le_refl _ | exact one1 _ | exact one5 _ _ _ _ _ | omega) | trivial)) | (simp -dsimp only [↓RP, RQ, Nat.reduceMul, reduceIte, reduceCtorEq, Nat.reduceAdd, Nat.reduceEqDiff, Nat.reduceLT, Nat.reduceLeDiff, getD_app, app_len, nsv, Try.results85, QW, Try.results79])))
     all_goals try (exfalso; omega)
     refine ⟨y + 1, ⟨by omega, by rw [show m - (y + 1) = z by omega]⟩, by omega, weak [] [] ?_ ?_ ?_⟩
     iterate 3 focus ((simp -dsimp only [↓RP, RQ, Nat.reduceMul, reduceIte, reduceCtorEq, Nat.reduceAdd, Nat.reduceEqDiff, Nat.reduceLT, Nat.reduceLeDiff, QV]); all_goals (try simp [QV]))
   ·have e0 : m - y = 0 := by omega
    rw [e0, baseG_0]
    (repeat' (first | with_reducible (first | apply splitVC_d <;> intro _ | apply splitVC <;> intro _) | ((with_reducible refine And.intro ?_ ?_); focus (first | exact True.intro | omega | (simp only [InK, ne_eq, and_true, true_and]; omega) | (and_intros <;> first | exact .inr trivial | exact Nat.le_refl _ | exact one1 _ | exact one5 _ _ _ _ _ | omega) | trivial)) | (simp -dsimp only [↓RP, RQ, Nat.reduceMul, reduceIte, reduceCtorEq, Nat.reduceAdd, Nat.reduceEqDiff, Nat.reduceLT, Nat.reduceLeDiff, getD_app, app_len, nsv, Try.results85, QW, Try.results79])))
    all_goals try (exfalso; omega)
    refine loop_vc (fun (k : Nat) => k ≤ m) (fun k => ⟨[(1, .ptr 0 0), (11, .vec 61 k 1), (77, .val (.int .i64 (m : Nat))), (78, .val (.int .i64 (k : Nat)))], [(2, .cells 25 [.vec 60 M.length 1]), (0, .cells 69 [.ref false 2 (fun j => rf n m w j)]), (60, .rows 3 1 M.length (fun i _ => .val (.int .i64 (M.getD i 0 : Nat)))), (61, .rows 3 1 k (fun y _ => .val (.int .i64 ((upTo 0 k).getD y 0 : Nat))))], 500⟩) (fun k => m - k) 0 (Nat.zero_le _) (weak [(61, none)] [] ?_ ?_ ?_) fun k hk => ?_
    iterate 3 focus ((simp -dsimp only [↓RP, RQ, Nat.reduceMul, reduceIte, reduceCtorEq, Nat.reduceAdd, Nat.reduceEqDiff, Nat.reduceLT, Nat.reduceLeDiff, QV]); all_goals (try simp [QV]))
    by_cases hlt : k < m
    ·(repeat' (first | with_reducible (first | apply splitVC_d <;> intro _ | apply splitVC <;> intro _) | ((with_reducible refine And.intro ?_ ?_); focus (first | exact True.intro | omega | (simp only [InK, ne_eq, and_true, true_and]; omega) | (and_intros <;> first | exact .inr trivial | exact Nat.le_refl _ | exact one1 _ | exact one5 _ _ _ _ _ | omega) | trivial)) | (simp -dsimp only [↓RP, RQ, Nat.reduceMul, reduceIte, reduceCtorEq, Nat.reduceAdd, Nat.reduceEqDiff, Nat.reduceLT, Nat.reduceLeDiff, getD_app, app_len, nsv, Try.results85, QW, Try.results79])))
     all_goals try (exfalso; omega)
     refine ⟨k + 1, by omega, by omega, weak [(61, some 506)] [] ?_ ?_ ?_⟩
     ·(simp -dsimp only [↓RP, RQ, Nat.reduceMul, reduceIte, reduceCtorEq, Nat.reduceAdd, Nat.reduceEqDiff, Nat.reduceLT, Nat.reduceLeDiff, QV, upTo_app]); all_goals (try simp [QV, upTo_app])
     ·(simp -dsimp only [↓RP, RQ, Nat.reduceMul, reduceIte, reduceCtorEq, Nat.reduceAdd, Nat.reduceEqDiff, Nat.reduceLT, Nat.reduceLeDiff, QV, upTo_app]); all_goals (try simp [QV, upTo_app]); all_goals first | exact up_get0 k | skip
     ·(simp -dsimp only [↓RP, RQ, Nat.reduceMul, reduceIte, reduceCtorEq, Nat.reduceAdd, Nat.reduceEqDiff, Nat.reduceLT, Nat.reduceLeDiff, QV]); all_goals (try simp [QV])
    ·have hkm : m = k := by omega
     subst hkm
     (repeat' (first | with_reducible (first | apply splitVC_d <;> intro _ | apply splitVC <;> intro _) | ((with_reducible refine And.intro ?_ ?_); focus (first | exact True.intro | omega | (simp only [InK, ne_eq, and_true, true_and]; omega) | (and_intros <;> first | exact .inr trivial | exact Nat.le_refl _ | exact one1 _ | exact one5 _ _ _ _ _ | omega) | trivial)) | (simp -dsimp only [↓RP, RQ, Nat.reduceMul, reduceIte, reduceCtorEq, Nat.reduceAdd, Nat.reduceEqDiff, Nat.reduceLT, Nat.reduceLeDiff, getD_app, app_len, nsv, Try.results85, QW, Try.results79])))
     all_goals try (exfalso; omega)
     exact ⟨upTo_len _ _, by rw [upTo_len]; exact Nat.le_refl _⟩
  | succ c =>
   have hc5 : c < 5 := by omega
   have hcn : c < n := by omega
   have b := Dg_bd (n := n) (t := t) hcn
   have ec : ((c + 1 : Nat) : Int) - 1 = (c : Int) := by omega
   by_cases hd : Dg n t c = n
   ·have hdb : decide (Dg n t c = n) = true := decide_eq_true hd
    (repeat' (first | with_reducible (first | apply splitVC_d <;> intro _ | apply splitVC <;> intro _) | ((with_reducible refine And.intro ?_ ?_); focus (first | exact True.intro | omega | (simp only [InK, ne_eq, and_true, true_and]; omega) | (and_intros <;> first | exact .inr trivial | exact Nat.le_refl _ | exact one1 _ | exact one5 _ _ _ _ _ | omega) | trivial)) | (simp -dsimp only [↓RP, RQ, Nat.reduceMul, reduceIte, reduceCtorEq, Nat.reduceAdd, Nat.reduceEqDiff, Nat.reduceLT, Nat.reduceLeDiff, ec, pl_get (nxF n t (c + 1)) hc5, nxF_at, nxF_S hcn, hdb, getD_app, app_len, nsv, Try.results85, QW, Try.results79])))
    all_goals try (exfalso; omega)
    refine ⟨c, ⟨by omega, fun j h1 h2 => ?_⟩, by omega, weak [] [] ?_ ?_ ?_ rfl⟩
    ·by_cases e : j = c
     ·subst e; exact hd
     ·exact hl j (by omega) h2
    ·(simp -dsimp only [↓RP, RQ, Nat.reduceMul, reduceIte, reduceCtorEq, Nat.reduceAdd, Nat.reduceEqDiff, Nat.reduceLT, Nat.reduceLeDiff, QV]); all_goals (try (simp [QV])); all_goals (try omega)
    ·(simp -dsimp only [↓RP, RQ, Nat.reduceMul, reduceIte, reduceCtorEq, Nat.reduceAdd, Nat.reduceEqDiff, Nat.reduceLT, Nat.reduceLeDiff, QV, MsL_0, app_len, getD_app]); all_goals (try simp [QV, MsL_0, app_len, getD_app])
    ·(simp -dsimp only [↓RP, RQ, Nat.reduceMul, reduceIte, reduceCtorEq, Nat.reduceAdd, Nat.reduceEqDiff, Nat.reduceLT, Nat.reduceLeDiff, QV]); all_goals (try simp [QV])
   ·have hm := Dg_more hcn ht hd
    have hdb : decide (Dg n t c = n) = false := decide_eq_false hd
    (repeat' (first | with_reducible (first | apply splitVC_d <;> intro _ | apply splitVC <;> intro _) | ((with_reducible refine And.intro ?_ ?_); focus (first | exact True.intro | omega | (simp only [InK, ne_eq, and_true, true_and]; omega) | (and_intros <;> first | exact .inr trivial | exact Nat.le_refl _ | exact one1 _ | exact one5 _ _ _ _ _ | omega) | trivial)) | (simp -dsimp only [↓RP, RQ, Nat.reduceMul, reduceIte, reduceCtorEq, Nat.reduceAdd, Nat.reduceEqDiff, Nat.reduceLT, Nat.reduceLeDiff, ec, pl_get (nxF n t (c + 1)) hc5, nxF_at, hdb, nxF_up hcn (fun j h1 h2 => hl j (by omega) h2) hd, getD_app, app_len, nsv, Try.results85, QW, Try.results79])))
    all_goals try (exfalso; omega)
    refine ⟨t + 1, hm, by omega, weak [] [] ?_ ?_ ?_ rfl⟩
    ·(simp -dsimp only [↓RP, RQ, Nat.reduceMul, reduceIte, reduceCtorEq, Nat.reduceAdd, Nat.reduceEqDiff, Nat.reduceLT, Nat.reduceLeDiff, QV]); all_goals (try simp [QV])
    ·(simp -dsimp only [↓RP, RQ, Nat.reduceMul, reduceIte, reduceCtorEq, Nat.reduceAdd, Nat.reduceEqDiff, Nat.reduceLT, Nat.reduceLeDiff, QV, MsL_0, app_len, getD_app]); all_goals (try simp [QV, MsL_0, app_len, getD_app])
    ·(simp -dsimp only [↓RP, RQ, Nat.reduceMul, reduceIte, reduceCtorEq, Nat.reduceAdd, Nat.reduceEqDiff, Nat.reduceLT, Nat.reduceLeDiff, QV]); all_goals (try simp [QV])
end Go.He
end
