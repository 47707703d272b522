/- A part of the proof. -/
import Derived.Test.YtnkplemacdipfaaPC
import Derived.Test.YtnkplemacdipfaaED
section
set_option linter.unusedSimpArgs false
set_option linter.unusedVariables false
namespace Go.Po
open Go.Sx
def Pool.cap (p : Pool) (r i : Nat) : Int := if i = r then 0 else p.hi i - p.lo i
theorem cap_sum (p : Pool) (r : Nat) : ∀ n, sumTo (p.cap r) n = sumTo (ex p.hi r) n - sumTo (ex p.lo r) n
  | 0 => by simp [sumTo]
  | n + 1 => by
    have := cap_sum p r n
    have e : p.cap r n = ex p.hi r n - ex p.lo r n := by
      unfold Pool.cap ex
      by_cases h : n = r
      · rw [if_pos h, if_pos (by omega), if_pos (by omega)]; omega
      · rw [if_neg h, if_neg (by omega), if_neg (by omega)]
    simp only [sumTo]; rw [e]; omega
theorem lft_succ (p : Pool) (r : Nat) (all most : Int) (k : Nat) : p.lft r all most (k + 1) = if k = r then p.lft r all most k else p.lft r all most k - min (p.lft r all most k) (p.hi k - p.lo k) := rfl
theorem sumTo_succ (u : Nat → Int) (k : Nat) : sumTo u (k + 1) = sumTo u k + u k := rfl
theorem lft_max (p : Pool) (h : p.Fine) (r : Nat) (all most : Int) (h0 : 0 ≤ p.lft r all most 0) : ∀ k, k ≤ p.n → p.lft r all most k = max 0 (p.lft r all most 0 - sumTo (p.cap r) k)
  | 0, _ => by simp only [sumTo]; omega
  | k + 1, hk => by
    have ih := lft_max p h r all most h0 k (by omega)
    have hr := h.rg k (by omega)
    rw [lft_succ, sumTo_succ]
    have ec : p.cap r k = if k = r then 0 else p.hi k - p.lo k := rfl
    rw [ec]
    by_cases e : k = r
    · rw [if_pos e, if_pos e, ih]; omega
    · rw [if_neg e, if_neg e]; omega
theorem tru_sum (p : Pool) (r : Nat) (all most : Int) : ∀ k, sumTo (p.tru r all most) k = sumTo (fun i => if i = r then most else p.lo i) k + (p.lft r all most 0 - p.lft r all most k)
  | 0 => by simp only [sumTo]; omega
  | k + 1 => by
    have ih := tru_sum p r all most k
    rw [sumTo_succ, sumTo_succ, ih, lft_succ]
    have et : p.tru r all most k = if k = r then most else p.lo k + min (p.lft r all most k) (p.hi k - p.lo k) := rfl
    rw [et]
    by_cases e : k = r
    · rw [if_pos e, if_pos e, if_pos e]; omega
    · rw [if_neg e, if_neg e, if_neg e]; omega
theorem sum_put (u : Nat → Int) (r : Nat) (c : Int) : ∀ n, sumTo (fun i => if i = r then c else u i) n = (if r < n then c else 0) + sumTo (ex u r) n
  | 0 => by simp [sumTo]
  | n + 1 => by
    have ih := sum_put u r c n
    simp only [sumTo, ih]
    by_cases e : n = r
    · subst e
      have h0 : ex u n n = 0 := by simp [ex]
      rw [h0, if_pos rfl, if_pos (show n < n + 1 by omega), if_neg (show ¬ n < n by omega)]
      omega
    · have h0 : ex u r n = u n := by unfold ex; rw [if_neg (by omega)]
      rw [h0, if_neg e]
      by_cases h : r < n
      · rw [if_pos h, if_pos (show r < n + 1 by omega)]; omega
      · rw [if_neg h, if_neg (show ¬ r < n + 1 by omega)]; omega
theorem tru_ok (p : Pool) (h : p.Fine) (r : Nat) (hr : r < p.n) (all : Int) (h1 : p.ta r ≤ all) (h2 : all ≤ p.tb r) (most : Int) (hm : most = min (p.hi r) (all - p.olo r)) :
    p.Truth p.n (p.tru r all most) ∧ sumTo (p.tru r all most) p.n = all ∧ p.tru r all most r = most := by
  have hrr := h.rg r hr
  unfold Pool.ta Pool.tb at *
  rw [Int.toNat_natCast] at *
  have e0 : p.lft r all most 0 = all - (most + p.olo r) := by
    simp only [Pool.lft]
    rw [sum_put, if_pos hr]; rfl
  have hl0 : 0 ≤ p.lft r all most 0 := by omega
  have hcap := cap_sum p r p.n
  have hmax := lft_max p h r all most hl0
  have hend := hmax p.n (Nat.le_refl _)
  unfold Pool.olo Pool.ohi at *
  have hs := tru_sum p r all most p.n
  have hle := sumTo_le (ex p.lo r) (ex p.hi r) p.n (fun i hi => by have := h.rg i hi; unfold ex; split <;> omega) p.n (Nat.le_refl _)
  rw [sum_put, if_pos hr] at hs
  refine ⟨⟨rfl, fun i hi => ?_⟩, by omega, by simp [Pool.tru]⟩
  have hri := h.rg i hi
  have hmi := hmax i (by omega)
  unfold Pool.tru
  by_cases e : i = r
  · subst e; rw [if_pos rfl]; omega
  · rw [if_neg e]; omega
theorem iW_tot (p : Pool) (h : p.Fine) (r : Nat) (hr : r < p.n) (d : Int) : p.ta r ≤ p.tAll (p.iW r d) ∧ p.tAll (p.iW r d) ≤ p.tb r ∧ p.tMost r (p.iW r d) = min (p.hi r) (p.tAll (p.iW r d) - p.olo r) := by
  obtain ⟨e1, e2⟩ := L_ta p h r hr
  have hb := t_bounds p h r (p.iW r d) hr (iW_lt p r d)
  refine ⟨by omega, by omega, ?_⟩
  unfold Pool.tMost
  have : p.L - p.lo r = p.olo r := by rw [e1]; unfold Pool.ta; rw [Int.toNat_natCast]; omega
  rw [this]
theorem wt_truth (p : Pool) (h : p.Fine) (r : Nat) (hr : r < p.n) (d : Int) : p.Truth p.n (p.wt r d) := by
  obtain ⟨h1, h2, h3⟩ := iW_tot p h r hr d
  exact (tru_ok p h r hr _ h1 h2 _ h3).1
theorem wt_left (p : Pool) (h : p.Fine) (r : Nat) (hr : r < p.n) (d : Int) : p.net (sumTo (p.wt r d) p.n) - d * p.wt r d r = p.sLo r d := by
  obtain ⟨h1, h2, h3⟩ := iW_tot p h r hr d
  obtain ⟨_, h5, h6⟩ := tru_ok p h r hr _ h1 h2 _ h3
  have e1 : sumTo (p.wt r d) p.n = p.tAll (p.iW r d) := h5
  have e2 : p.wt r d r = p.tMost r (p.iW r d) := h6
  rw [e1, e2, ← wst_sLo p h r hr]
  rfl
theorem foldMin_le (f : Nat → Int) (m k : Nat) (h : k ≤ m) : foldMin f m ≤ f k := by
  rw [foldMin_am]; exact am_min f m k h
theorem le_foldMax (f : Nat → Int) (m k : Nat) (h : k ≤ m) : f k ≤ foldMax f m := by
  rw [foldMax_neg]
  have := foldMin_le (fun k => -f k) m k h
  omega
theorem ex_le (u v : Nat → Int) (r : Nat) (n : Nat) (h : ∀ i, i < n → u i ≤ v i) : sumTo (ex u r) n ≤ sumTo (ex v r) n :=
  sumTo_le _ _ n (fun i hi => by have := h i hi; unfold ex; split <;> omega) n (Nat.le_refl _)
theorem truth_within (p : Pool) (h : p.Fine) (u : Nat → Int) (ht : p.Truth p.n u) (r : Nat) (hr : r < p.n) (d : Int) (hd : 0 ≤ d) :
    p.sLo r d ≤ p.net (sumTo u p.n) - d * u r ∧ p.net (sumTo u p.n) - d * u r ≤ p.sHi r d := by
  have hsum := sumTo_ex u r p.n hr
  have hlo := ex_le p.lo u r p.n fun i hi => (ht.rg i hi).1
  have hhi := ex_le u p.hi r p.n fun i hi => (ht.rg i hi).2
  have hu := ht.rg r hr
  have hta : p.ta r ≤ sumTo u p.n := by unfold Pool.ta Pool.olo; rw [Int.toNat_natCast]; omega
  have htb : sumTo u p.n ≤ p.tb r := by unfold Pool.tb Pool.ohi; rw [Int.toNat_natCast]; omega
  have hk : (sumTo u p.n - p.ta r).toNat ≤ p.num r := by unfold Pool.num; omega
  have e : p.ta r + ((sumTo u p.n - p.ta r).toNat : Int) = sumTo u p.n := by omega
  have h1 := foldMin_le (p.lowAt r d) (p.num r) _ hk
  have h2 := le_foldMax (p.highAt r d) (p.num r) _ hk
  have e1 : p.lowAt r d (sumTo u p.n - p.ta r).toNat = p.net (sumTo u p.n) - d * min (p.hi r) (sumTo u p.n - p.olo r) := by unfold Pool.lowAt; rw [e, Int.toNat_natCast]
  have e2 : p.highAt r d (sumTo u p.n - p.ta r).toNat = p.net (sumTo u p.n) - d * max (p.lo r) (sumTo u p.n - p.ohi r) := by unfold Pool.highAt; rw [e, Int.toNat_natCast]
  rw [e1] at h1
  rw [e2] at h2
  have k1 : d * u r ≤ d * min (p.hi r) (sumTo u p.n - p.olo r) := Int.mul_le_mul_of_nonneg_left (by unfold Pool.olo; omega) hd
  have k2 : d * max (p.lo r) (sumTo u p.n - p.ohi r) ≤ d * u r := Int.mul_le_mul_of_nonneg_left (by unfold Pool.ohi; omega) hd
  unfold Pool.sLo Pool.sHi
  omega
theorem tr_truth {p : Pool} {m : Nat} {u : Nat → Int} (h : p.Truth m u) : p.tr m u = 0 := by
  unfold Pool.tr
  rw [if_pos h.n, if_pos h.rg]
theorem wt_leftV (p : Pool) (r : Nat) (d : Int) (h : p.asked r d = 0) : p.leftE p.n (p.wt r d) r d = 0 ∧ p.leftV p.n (p.wt r d) r d = p.sLo r d := by
  obtain ⟨hf, h0, h1, _, _⟩ := asked_ok h
  have e : p.leftE p.n (p.wt r d) r d = 0 := by unfold Pool.leftE; rw [if_pos h, tr_truth (wt_truth p hf r (by omega) d)]
  refine ⟨e, ?_⟩
  unfold Pool.leftV
  rw [if_pos e, Int.toNat_natCast, wt_left p hf r (by omega) d]
theorem wt_chE (p : Pool) (r : Nat) (d : Int) (h : p.asked r d = 0) (hs : p.sLo r d < 0) : p.chE p.n (p.wt r d) r d = 0 := by
  obtain ⟨e1, e2⟩ := wt_leftV p r d h
  unfold Pool.chE
  rw [if_pos e1, e2, if_neg (by omega)]
theorem sLo_mono (p : Pool) (h : p.Fine) (r : Nat) (hr : r < p.n) (d d' : Int) (hd : d ≤ d') : p.sLo r d' ≤ p.sLo r d := by
  rw [← wst_sLo p h r hr, ← wst_sLo p h r hr]; exact wst_mono p h r hr d d' hd
end Go.Po
end
section
set_option linter.unusedSimpArgs false
set_option linter.unusedVariables false
set_option maxRecDepth 100000
set_option maxHeartbeats 8000000
namespace Go.Po
open Go.Sx
theorem ty97 : tyOf Go.Proofs.Try.prog 97 = some ⟨true, 5, some [.int .i64 0, .int .i64 0, .int .i64 0, .int .i64 0, .int .i64 0], .struct [(0, 1, some false), (1, 1, some false), (2, 1, some false), (3, 1, some false), (4, 1, some false)]⟩ := by kernel_rfl
theorem pl97 : placesOf Go.Proofs.Try.prog 97 = some [(0, 1), (1, 1), (2, 1), (3, 1), (4, 1)] := by kernel_rfl
theorem eq97 : eqInfo Go.Proofs.Try.prog 97 = some [.i .i64, .i .i64, .i .i64, .i .i64, .i .i64] := by kernel_rfl
def rul (p : Pool) : SV := .agg [I p.per, I p.pence, I p.keep, I p.step, I p.n]
theorem c73 (p : Pool) : Contract Go.Proofs.Try.prog 73 [p.sv] (rul p) := by
  refine contract_of Go.Proofs.Try.func73 rfl (by kernel_rfl) follows (by kernel_rfl) _ _ (by rw [Go.Proofs.Try.ntmps73]; simp) (by simp [OldL, p.old]) ?_
  unfold rul I
  conv => arg 4; unfold Pool.sv rngs I
  (repeat' (first | with_reducible refine splitVC_d (fun _ => ?_) (fun _ => ?_) | ((with_reducible refine And.intro ?_ ?_); focus (first | trivial | (simp only [InK]; omega) | omega | (simp only [InK, ne_eq, and_true, true_and]; omega))) | simp -dsimp only [↓RP, RQ0, RQ1, RQ2, RQ3, implies_true, forall_const, Nat.reduceMul, reduceIte, reduceCtorEq, Nat.reduceAdd, Nat.reduceEqDiff, Nat.reduceLT, Nat.reduceLeDiff, ty2, ty3, ty22, ty24, ty97, pl97, Go.Proofs.Try.results73]))
theorem c41 (m : Nat) (P : Nat → Pool) (r d : Int) (hm : m ≤ 1000000) (hn : ∀ i, i < m → (P i).n ≤ 1000000) : Contract Go.Proofs.Try.prog 41 [pools m P, I r, I d] (.tup [I (whenV m P r d), I (whenE m P r d)]) := by
  refine contract_of Go.Proofs.Try.func41 rfl (by kernel_rfl) follows (by kernel_rfl) _ _ (by rw [Go.Proofs.Try.ntmps41]; simp) (by simp only [OldL, pools_old]; simp [Old, I]) ?_
  unfold I
  conv => arg 4; unfold pools
  (repeat' (first | with_reducible refine splitVC_d (fun _ => ?_) (fun _ => ?_) | ((with_reducible refine And.intro ?_ ?_); focus (first | trivial | (simp only [InK]; omega) | omega | (simp only [InK, ne_eq, and_true, true_and]; omega))) | simp -dsimp only [↓RP, RQ0, RQ1, RQ2, RQ3, implies_true, forall_const, Nat.reduceMul, reduceIte, reduceCtorEq, Nat.reduceAdd, Nat.reduceEqDiff, Nat.reduceLT, Nat.reduceLeDiff, ty2, ty3, ty4, ty22, ty24, ty25, ty28, ty52, Go.Proofs.Try.results41]))
  refine callVC (c62_1 m 1 20) (by (simp -dsimp only [↓RP, RQ0, RQ1, RQ2, RQ3, implies_true, forall_const, Nat.reduceMul, reduceIte, reduceCtorEq, Nat.reduceAdd, Nat.reduceEqDiff, Nat.reduceLT, Nat.reduceLeDiff, ints, I]); simp) (by (simp -dsimp only [↓RP, RQ0, RQ1, RQ2, RQ3, implies_true, forall_const, Nat.reduceMul, reduceIte, reduceCtorEq, Nat.reduceAdd, Nat.reduceEqDiff, Nat.reduceLT, Nat.reduceLeDiff, B])) ?_
  (repeat' (first | with_reducible refine splitVC_d (fun _ => ?_) (fun _ => ?_) | ((with_reducible refine And.intro ?_ ?_); focus (first | trivial | (simp only [InK]; omega) | omega | (simp only [InK, ne_eq, and_true, true_and]; omega))) | simp -dsimp only [↓RP, RQ0, RQ1, RQ2, RQ3, implies_true, forall_const, Nat.reduceMul, reduceIte, reduceCtorEq, Nat.reduceAdd, Nat.reduceEqDiff, Nat.reduceLT, Nat.reduceLeDiff, B, ty2, ty3, ty4, ty22, ty24, ty25, ty28, ty52, Go.Proofs.Try.results41]))
  rotate_left
  · rename_i h
    have e : whenE m P r d = 6 := by unfold whenE; rw [if_pos (by omega)]
    exact tup2 (by simp [whenV, e]) (by simp [e])
  rename_i hm1
  refine loop_vc (fun i => i ≤ m ∧ ∀ j, j < i → (P j).err = 0) (fun i => ⟨[(0, .arr false false m 5 (fun i j => pc (P i) j)), (1, .val (.int .i64 r)), (2, .val (.int .i64 d)), (25, .arr false false m 5 (fun i j => pc (P i) j)), (26, .val (.int .i64 m)), (27, .val (.int .i64 i))], [], 0⟩) (fun i => m - i) 0 ⟨Nat.zero_le _, fun j hj => by omega⟩ (weak [] [] ?_ ?_ ?_) fun i hi => ?_
  · (simp -dsimp only [↓RP, RQ0, RQ1, RQ2, RQ3, implies_true, forall_const, Nat.reduceMul, reduceIte, reduceCtorEq, Nat.reduceAdd, Nat.reduceEqDiff, Nat.reduceLT, Nat.reduceLeDiff, wk_pc]); simp
  · (simp -dsimp only [↓RP, RQ0, RQ1, RQ2, RQ3, implies_true, forall_const, Nat.reduceMul, reduceIte, reduceCtorEq, Nat.reduceAdd, Nat.reduceEqDiff, Nat.reduceLT, Nat.reduceLeDiff])
  · (simp -dsimp only [↓RP, RQ0, RQ1, RQ2, RQ3, implies_true, forall_const, Nat.reduceMul, reduceIte, reduceCtorEq, Nat.reduceAdd, Nat.reduceEqDiff, Nat.reduceLT, Nat.reduceLeDiff])
  have eE : ∀ k : Nat, k < m → (∀ j, j < k → (P j).err = 0) → (P k).err ≠ 0 → whenE m P r d = (P k).err := fun k hk h1 h2 => by
    have := fstI_at (badP P) m 0 k (by omega) (by omega) (fun j _ hj => by simp [badP, h1 j hj]) (by simp [badP, h2])
    unfold whenE
    rw [if_neg (by omega), this, if_pos (by omega)]
    simp
  (repeat' (first | with_reducible refine splitVC_d (fun _ => ?_) (fun _ => ?_) | ((with_reducible refine And.intro ?_ ?_); focus (first | trivial | (simp only [InK]; omega) | omega | (simp only [InK, ne_eq, and_true, true_and]; omega))) | simp -dsimp only [↓RP, RQ0, RQ1, RQ2, RQ3, implies_true, forall_const, Nat.reduceMul, reduceIte, reduceCtorEq, Nat.reduceAdd, Nat.reduceEqDiff, Nat.reduceLT, Nat.reduceLeDiff, ty2, ty3, ty4, ty22, ty24, ty28, ty52, pc0, pc1, pc2, pc3, pc4, sel, Go.Proofs.Try.results41]))
  · refine callVC (c24 (P i) (hn i (by omega))) (by (simp -dsimp only [↓RP, RQ0, RQ1, RQ2, RQ3, implies_true, forall_const, Nat.reduceMul, reduceIte, reduceCtorEq, Nat.reduceAdd, Nat.reduceEqDiff, Nat.reduceLT, Nat.reduceLeDiff, Pool.sv, rngs, I]); simp) (by (simp -dsimp only [↓RP, RQ0, RQ1, RQ2, RQ3, implies_true, forall_const, Nat.reduceMul, reduceIte, reduceCtorEq, Nat.reduceAdd, Nat.reduceEqDiff, Nat.reduceLT, Nat.reduceLeDiff, I])) ?_
    (repeat' (first | with_reducible refine splitVC_d (fun _ => ?_) (fun _ => ?_) | ((with_reducible refine And.intro ?_ ?_); focus (first | trivial | (simp only [InK]; omega) | omega | (simp only [InK, ne_eq, and_true, true_and]; omega))) | simp -dsimp only [↓RP, RQ0, RQ1, RQ2, RQ3, implies_true, forall_const, Nat.reduceMul, reduceIte, reduceCtorEq, Nat.reduceAdd, Nat.reduceEqDiff, Nat.reduceLT, Nat.reduceLeDiff, I, ty2, ty3, ty4, ty22, ty24, ty28, ty52, pc0, pc1, pc2, pc3, pc4, sel, Go.Proofs.Try.results41]))
    · rename_i h0
      refine ⟨i + 1, ⟨by omega, fun j hj => ?_⟩, by omega, weak [] [] ?_ ?_ ?_⟩
      · by_cases e : j = i
        · subst e; exact h0
        · exact hi.2 j (by omega)
      · (simp -dsimp only [↓RP, RQ0, RQ1, RQ2, RQ3, implies_true, forall_const, Nat.reduceMul, reduceIte, reduceCtorEq, Nat.reduceAdd, Nat.reduceEqDiff, Nat.reduceLT, Nat.reduceLeDiff, wk_pc]); simp
      · (simp -dsimp only [↓RP, RQ0, RQ1, RQ2, RQ3, implies_true, forall_const, Nat.reduceMul, reduceIte, reduceCtorEq, Nat.reduceAdd, Nat.reduceEqDiff, Nat.reduceLT, Nat.reduceLeDiff])
      · (simp -dsimp only [↓RP, RQ0, RQ1, RQ2, RQ3, implies_true, forall_const, Nat.reduceMul, reduceIte, reduceCtorEq, Nat.reduceAdd, Nat.reduceEqDiff, Nat.reduceLT, Nat.reduceLeDiff])
    · rename_i h0
      have e := eE i (by omega) hi.2 h0
      exact tup2 (by unfold whenV; rw [e, if_neg h0]) e.symm
  have hall : ∀ j, j < m → (P j).err = 0 := fun j hj => hi.2 j (by omega)
  have eB : fstI (badP P) 0 m = -1 := fstI_no _ _ _ fun j _ hj => by simp [badP, hall j (by omega)]
  have hfine : ∀ j, j < m → (P j).Fine := fun j hj => Pool.fine (hall j hj)
  have eW : whenE m P r d = if ∀ i, i < m → (P i).same (P 0) then
    (if ∀ i, i < m - 1 → (P (i + 1)).inside (P i) then
      (if (P 0).asked r d = 0 then (if fstI (safeP P r d) 0 m < 0 then 12 else 0) else (P 0).asked r d)
    else 16)
  else 15 := by
    unfold whenE
    rw [if_neg (by omega), eB, if_neg (by omega)]
  clear eE eB hi
  refine loop_vc (fun i => i ≤ m ∧ ∀ j, j < i → (P j).same (P 0)) (fun i => ⟨[(0, .arr false false m 5 (fun i j => pc (P i) j)), (1, .val (.int .i64 r)), (2, .val (.int .i64 d)), (37, .arr false false m 5 (fun i j => pc (P i) j)), (38, .val (.int .i64 m)), (39, .val (.int .i64 i))], [], 0⟩) (fun i => m - i) 0 ⟨by omega, fun j hj => by omega⟩ (weak [] [] ?_ ?_ ?_) fun i hi => ?_
  · (simp -dsimp only [↓RP, RQ0, RQ1, RQ2, RQ3, implies_true, forall_const, Nat.reduceMul, reduceIte, reduceCtorEq, Nat.reduceAdd, Nat.reduceEqDiff, Nat.reduceLT, Nat.reduceLeDiff, wk_pc]); simp
  · (simp -dsimp only [↓RP, RQ0, RQ1, RQ2, RQ3, implies_true, forall_const, Nat.reduceMul, reduceIte, reduceCtorEq, Nat.reduceAdd, Nat.reduceEqDiff, Nat.reduceLT, Nat.reduceLeDiff])
  · (simp -dsimp only [↓RP, RQ0, RQ1, RQ2, RQ3, implies_true, forall_const, Nat.reduceMul, reduceIte, reduceCtorEq, Nat.reduceAdd, Nat.reduceEqDiff, Nat.reduceLT, Nat.reduceLeDiff])
  (repeat' (first | with_reducible refine splitVC_d (fun _ => ?_) (fun _ => ?_) | ((with_reducible refine And.intro ?_ ?_); focus (first | trivial | (simp only [InK]; omega) | omega | (simp only [InK, ne_eq, and_true, true_and]; omega))) | simp -dsimp only [↓RP, RQ0, RQ1, RQ2, RQ3, implies_true, forall_const, Nat.reduceMul, reduceIte, reduceCtorEq, Nat.reduceAdd, Nat.reduceEqDiff, Nat.reduceLT, Nat.reduceLeDiff, ty2, ty3, ty4, ty22, ty24, ty28, ty52, pc0, pc1, pc2, pc3, pc4, sel, Int.toNat_zero, Go.Proofs.Try.results41]))
  · refine callVC (c73 (P i)) (by (simp -dsimp only [↓RP, RQ0, RQ1, RQ2, RQ3, implies_true, forall_const, Nat.reduceMul, reduceIte, reduceCtorEq, Nat.reduceAdd, Nat.reduceEqDiff, Nat.reduceLT, Nat.reduceLeDiff, Pool.sv, rngs, I]); simp) (by (simp -dsimp only [↓RP, RQ0, RQ1, RQ2, RQ3, implies_true, forall_const, Nat.reduceMul, reduceIte, reduceCtorEq, Nat.reduceAdd, Nat.reduceEqDiff, Nat.reduceLT, Nat.reduceLeDiff, rul, I])) ?_
    (repeat' (first | with_reducible refine splitVC_d (fun _ => ?_) (fun _ => ?_) | ((with_reducible refine And.intro ?_ ?_); focus (first | trivial | (simp only [InK]; omega) | omega | (simp only [InK, ne_eq, and_true, true_and]; omega))) | simp -dsimp only [↓RP, RQ0, RQ1, RQ2, RQ3, implies_true, forall_const, Nat.reduceMul, reduceIte, reduceCtorEq, Nat.reduceAdd, Nat.reduceEqDiff, Nat.reduceLT, Nat.reduceLeDiff, rul, I, ty2, ty3, ty4, ty22, ty24, ty28, ty52, ty97, eq97, pc0, pc1, pc2, pc3, pc4, sel, Int.toNat_zero, Go.Proofs.Try.results41]))
    refine callVC (c73 (P 0)) (by (simp -dsimp only [↓RP, RQ0, RQ1, RQ2, RQ3, implies_true, forall_const, Nat.reduceMul, reduceIte, reduceCtorEq, Nat.reduceAdd, Nat.reduceEqDiff, Nat.reduceLT, Nat.reduceLeDiff, Pool.sv, rngs, I]); simp) (by (simp -dsimp only [↓RP, RQ0, RQ1, RQ2, RQ3, implies_true, forall_const, Nat.reduceMul, reduceIte, reduceCtorEq, Nat.reduceAdd, Nat.reduceEqDiff, Nat.reduceLT, Nat.reduceLeDiff, rul, I])) ?_
    have hsame : (decide ((P i).per = (P 0).per) && (decide ((P i).pence = (P 0).pence) && (decide ((P i).keep = (P 0).keep) && (decide ((P i).step = (P 0).step) && decide (((P i).n : Int) = (P 0).n))))) = decide ((P i).same (P 0)) := by
      have en : ((P i).n : Int) = (P 0).n ↔ (P i).n = (P 0).n := by omega
      rw [Bool.eq_iff_iff]; simp only [Bool.and_eq_true, decide_eq_true_eq, en]
      exact Iff.rfl
    (repeat' (first | with_reducible refine splitVC_d (fun _ => ?_) (fun _ => ?_) | ((with_reducible refine And.intro ?_ ?_); focus (first | trivial | (simp only [InK]; omega) | omega | (simp only [InK, ne_eq, and_true, true_and]; omega))) | simp -dsimp only [↓RP, RQ0, RQ1, RQ2, RQ3, implies_true, forall_const, Nat.reduceMul, reduceIte, reduceCtorEq, Nat.reduceAdd, Nat.reduceEqDiff, Nat.reduceLT, Nat.reduceLeDiff, rul, I, ty2, ty3, ty4, ty22, ty24, ty28, ty52, ty97, eq97, hsame, pc0, pc1, pc2, pc3, pc4, sel, Int.toNat_zero, Go.Proofs.Try.results41]))
    · rename_i h0
      refine ⟨i + 1, ⟨by omega, fun j hj => ?_⟩, by omega, weak [] [] ?_ ?_ ?_⟩
      · by_cases e : j = i
        · subst e; exact h0
        · exact hi.2 j (by omega)
      · (simp -dsimp only [↓RP, RQ0, RQ1, RQ2, RQ3, implies_true, forall_const, Nat.reduceMul, reduceIte, reduceCtorEq, Nat.reduceAdd, Nat.reduceEqDiff, Nat.reduceLT, Nat.reduceLeDiff, wk_pc]); simp
      · (simp -dsimp only [↓RP, RQ0, RQ1, RQ2, RQ3, implies_true, forall_const, Nat.reduceMul, reduceIte, reduceCtorEq, Nat.reduceAdd, Nat.reduceEqDiff, Nat.reduceLT, Nat.reduceLeDiff])
      · (simp -dsimp only [↓RP, RQ0, RQ1, RQ2, RQ3, implies_true, forall_const, Nat.reduceMul, reduceIte, reduceCtorEq, Nat.reduceAdd, Nat.reduceEqDiff, Nat.reduceLT, Nat.reduceLeDiff])
    · rename_i h0
      have e : whenE m P r d = 15 := by rw [eW, if_neg fun h => h0 (h i (by omega))]
      exact tup2 (by simp [whenV, e]) (by simp [e])
  have hsame : ∀ j, j < m → (P j).same (P 0) := fun j hj => hi.2 j (by omega)
  rw [if_pos hsame] at eW
  clear hi
  have em : ((m : Int) - 1).toNat = m - 1 := by omega
  refine loop_vc (fun i => i ≤ m - 1 ∧ ∀ j, j < i → (P (j + 1)).inside (P j)) (fun i => ⟨[(0, .arr false false m 5 (fun i j => pc (P i) j)), (1, .val (.int .i64 r)), (2, .val (.int .i64 d)), (52, .arr false false (m - 1) 5 (fun i j => pc (P (i + 1)) j)), (53, .val (.int .i64 (m - 1 : Nat))), (54, .val (.int .i64 i))], [], 0⟩) (fun i => m - i) 0 ⟨by omega, fun j hj => by omega⟩ (weak [] [] ?_ ?_ ?_) fun i hi => ?_
  · have e1 : ∀ a : Nat, Int.toNat 1 + a = a + 1 := fun a => by rw [show Int.toNat 1 = 1 from rfl]; omega
    (simp -dsimp only [↓RP, RQ0, RQ1, RQ2, RQ3, implies_true, forall_const, Nat.reduceMul, reduceIte, reduceCtorEq, Nat.reduceAdd, Nat.reduceEqDiff, Nat.reduceLT, Nat.reduceLeDiff, em, e1, wk_pc]); simp
  · (simp -dsimp only [↓RP, RQ0, RQ1, RQ2, RQ3, implies_true, forall_const, Nat.reduceMul, reduceIte, reduceCtorEq, Nat.reduceAdd, Nat.reduceEqDiff, Nat.reduceLT, Nat.reduceLeDiff])
  · (simp -dsimp only [↓RP, RQ0, RQ1, RQ2, RQ3, implies_true, forall_const, Nat.reduceMul, reduceIte, reduceCtorEq, Nat.reduceAdd, Nat.reduceEqDiff, Nat.reduceLT, Nat.reduceLeDiff])
  (repeat' (first | with_reducible refine splitVC_d (fun _ => ?_) (fun _ => ?_) | ((with_reducible refine And.intro ?_ ?_); focus (first | trivial | (simp only [InK]; omega) | omega | (simp only [InK, ne_eq, and_true, true_and]; omega))) | simp -dsimp only [↓RP, RQ0, RQ1, RQ2, RQ3, implies_true, forall_const, Nat.reduceMul, reduceIte, reduceCtorEq, Nat.reduceAdd, Nat.reduceEqDiff, Nat.reduceLT, Nat.reduceLeDiff, ty2, ty3, ty4, ty22, ty24, ty28, ty35, ty52, pc0, pc1, pc2, pc3, pc4, sel, Int.toNat_natCast, Go.Proofs.Try.results41]))
  · have h1 := hfine (i + 1) (by omega)
    have h2 := hfine i (by omega)
    have h8 := h1.n8
    have hs1 := (hsame (i + 1) (by omega)).2.2.2.2
    have hs2 := (hsame i (by omega)).2.2.2.2
    refine loop_vc (fun k => k ≤ (P (i + 1)).n ∧ ∀ j, j < k → (P i).lo j ≤ (P (i + 1)).lo j ∧ (P (i + 1)).hi j ≤ (P i).hi j) (fun k => ⟨[(0, .arr false false m 5 (fun i j => pc (P i) j)), (1, .val (.int .i64 r)), (2, .val (.int .i64 d)), (52, .arr false false (m - 1) 5 (fun i j => pc (P (i + 1)) j)), (53, .val (.int .i64 (m - 1 : Nat))), (54, .val (.int .i64 i)),
      (13, .val (.int .i64 i)), (60, .arr false false (P (i + 1)).n 2 fun i_1 j => .val (.int .i64 (if j = 0 then (P (i + 1)).lo i_1 else (P (i + 1)).hi i_1))), (61, .val (.int .i64 (P (i + 1)).n)), (62, .val (.int .i64 k))], [], 0⟩) (fun k => (P (i + 1)).n - k) 0 ⟨by omega, fun j hj => by omega⟩ (weak [] [] ?_ ?_ ?_) fun k hk => ?_
    · (simp -dsimp only [↓RP, RQ0, RQ1, RQ2, RQ3, implies_true, forall_const, Nat.reduceMul, reduceIte, reduceCtorEq, Nat.reduceAdd, Nat.reduceEqDiff, Nat.reduceLT, Nat.reduceLeDiff, wk_pc]); simp
    · (simp -dsimp only [↓RP, RQ0, RQ1, RQ2, RQ3, implies_true, forall_const, Nat.reduceMul, reduceIte, reduceCtorEq, Nat.reduceAdd, Nat.reduceEqDiff, Nat.reduceLT, Nat.reduceLeDiff])
    · (simp -dsimp only [↓RP, RQ0, RQ1, RQ2, RQ3, implies_true, forall_const, Nat.reduceMul, reduceIte, reduceCtorEq, Nat.reduceAdd, Nat.reduceEqDiff, Nat.reduceLT, Nat.reduceLeDiff])
    (repeat' (first | with_reducible refine splitVC_d (fun _ => ?_) (fun _ => ?_) | ((with_reducible refine And.intro ?_ ?_); focus (first | trivial | (simp only [InK]; omega) | omega | (simp only [InK, ne_eq, and_true, true_and]; omega))) | simp -dsimp only [↓RP, RQ0, RQ1, RQ2, RQ3, implies_true, forall_const, Nat.reduceMul, reduceIte, reduceCtorEq, Nat.reduceAdd, Nat.reduceEqDiff, Nat.reduceLT, Nat.reduceLeDiff, ty2, ty3, ty4, ty22, ty24, ty25, ty28, ty35, ty52, pc0, pc1, pc2, pc3, pc4, sel, Int.toNat_natCast, Go.Proofs.Try.results41]))
    · have hr1 := h1.rg k (by omega)
      have hr2 := h2.rg k (by omega)
      refine callVC (c62_2 ((P (i + 1)).lo k) ((P (i + 1)).hi k) ((P i).lo k) ((P i).hi k)) (by (simp -dsimp only [↓RP, RQ0, RQ1, RQ2, RQ3, implies_true, forall_const, Nat.reduceMul, reduceIte, reduceCtorEq, Nat.reduceAdd, Nat.reduceEqDiff, Nat.reduceLT, Nat.reduceLeDiff, ints, I]); simp; exact lit2 _ _) (by (simp -dsimp only [↓RP, RQ0, RQ1, RQ2, RQ3, implies_true, forall_const, Nat.reduceMul, reduceIte, reduceCtorEq, Nat.reduceAdd, Nat.reduceEqDiff, Nat.reduceLT, Nat.reduceLeDiff, B])) ?_
      (repeat' (first | with_reducible refine splitVC_d (fun _ => ?_) (fun _ => ?_) | ((with_reducible refine And.intro ?_ ?_); focus (first | trivial | (simp only [InK]; omega) | omega | (simp only [InK, ne_eq, and_true, true_and]; omega))) | simp -dsimp only [↓RP, RQ0, RQ1, RQ2, RQ3, implies_true, forall_const, Nat.reduceMul, reduceIte, reduceCtorEq, Nat.reduceAdd, Nat.reduceEqDiff, Nat.reduceLT, Nat.reduceLeDiff, B, ty2, ty3, ty4, ty22, ty24, ty25, ty28, ty35, ty52, pc0, pc1, pc2, pc3, pc4, sel, Int.toNat_natCast, Go.Proofs.Try.results41]))
      · rename_i h0
        refine ⟨k + 1, ⟨by omega, fun j hj => ?_⟩, by omega, weak [] [] ?_ ?_ ?_⟩
        · by_cases e : j = k
          · subst e; omega
          · exact hk.2 j (by omega)
        · (simp -dsimp only [↓RP, RQ0, RQ1, RQ2, RQ3, implies_true, forall_const, Nat.reduceMul, reduceIte, reduceCtorEq, Nat.reduceAdd, Nat.reduceEqDiff, Nat.reduceLT, Nat.reduceLeDiff, wk_pc]); simp
        · (simp -dsimp only [↓RP, RQ0, RQ1, RQ2, RQ3, implies_true, forall_const, Nat.reduceMul, reduceIte, reduceCtorEq, Nat.reduceAdd, Nat.reduceEqDiff, Nat.reduceLT, Nat.reduceLeDiff])
        · (simp -dsimp only [↓RP, RQ0, RQ1, RQ2, RQ3, implies_true, forall_const, Nat.reduceMul, reduceIte, reduceCtorEq, Nat.reduceAdd, Nat.reduceEqDiff, Nat.reduceLT, Nat.reduceLeDiff])
      · rename_i h0
        have e : whenE m P r d = 16 := by rw [eW, if_neg fun h => h0 (by have := h i (by omega) k (by omega); omega)]
        exact tup2 (by simp [whenV, e]) (by simp [e])
    · refine ⟨i + 1, ⟨by omega, fun j hj => ?_⟩, by omega, weak [] [] ?_ ?_ ?_⟩
      · by_cases e : j = i
        · subst e; exact fun q hq => hk.2 q (by omega)
        · exact hi.2 j (by omega)
      · (simp -dsimp only [↓RP, RQ0, RQ1, RQ2, RQ3, implies_true, forall_const, Nat.reduceMul, reduceIte, reduceCtorEq, Nat.reduceAdd, Nat.reduceEqDiff, Nat.reduceLT, Nat.reduceLeDiff, wk_pc]); simp
      · (simp -dsimp only [↓RP, RQ0, RQ1, RQ2, RQ3, implies_true, forall_const, Nat.reduceMul, reduceIte, reduceCtorEq, Nat.reduceAdd, Nat.reduceEqDiff, Nat.reduceLT, Nat.reduceLeDiff])
      · (simp -dsimp only [↓RP, RQ0, RQ1, RQ2, RQ3, implies_true, forall_const, Nat.reduceMul, reduceIte, reduceCtorEq, Nat.reduceAdd, Nat.reduceEqDiff, Nat.reduceLT, Nat.reduceLeDiff])
  have hin : ∀ j, j < m - 1 → (P (j + 1)).inside (P j) := fun j hj => hi.2 j (by omega)
  rw [if_pos hin] at eW
  clear hi
  refine callVC (c58 (P 0) (hn 0 (by omega)) r d) (by (simp -dsimp only [↓RP, RQ0, RQ1, RQ2, RQ3, implies_true, forall_const, Nat.reduceMul, reduceIte, reduceCtorEq, Nat.reduceAdd, Nat.reduceEqDiff, Nat.reduceLT, Nat.reduceLeDiff, Pool.sv, rngs, I]); simp) (by (simp -dsimp only [↓RP, RQ0, RQ1, RQ2, RQ3, implies_true, forall_const, Nat.reduceMul, reduceIte, reduceCtorEq, Nat.reduceAdd, Nat.reduceEqDiff, Nat.reduceLT, Nat.reduceLeDiff, I])) ?_
  (repeat' (first | with_reducible refine splitVC_d (fun _ => ?_) (fun _ => ?_) | ((with_reducible refine And.intro ?_ ?_); focus (first | trivial | (simp only [InK]; omega) | omega | (simp only [InK, ne_eq, and_true, true_and]; omega))) | simp -dsimp only [↓RP, RQ0, RQ1, RQ2, RQ3, implies_true, forall_const, Nat.reduceMul, reduceIte, reduceCtorEq, Nat.reduceAdd, Nat.reduceEqDiff, Nat.reduceLT, Nat.reduceLeDiff, I, ty2, ty3, ty4, ty22, ty24, ty28, ty52, pc0, pc1, pc2, pc3, pc4, sel, Int.toNat_zero, Go.Proofs.Try.results41]))
  rotate_left
  · rename_i h0
    rw [if_neg h0] at eW
    exact tup2 (by unfold whenV; rw [eW, if_neg h0]) eW.symm
  rename_i h0
  rw [if_pos h0] at eW
  have hA := asked_ok h0
  obtain ⟨q, rfl⟩ : ∃ q : Nat, r = (q : Int) := ⟨r.toNat, by omega⟩
  refine loop_vc (fun i => i ≤ m ∧ ∀ j, j < i → (P j).sLo q d < 0) (fun i => ⟨[(0, .arr false false m 5 (fun i j => pc (P i) j)), (1, .val (.int .i64 q)), (2, .val (.int .i64 d)), (103, .arr false false m 5 (fun i j => pc (P i) j)), (104, .val (.int .i64 m)), (105, .val (.int .i64 i))], [], 0⟩) (fun i => m - i) 0 ⟨by omega, fun j hj => by omega⟩ (weak [] [] ?_ ?_ ?_) fun i hi => ?_
  · (simp -dsimp only [↓RP, RQ0, RQ1, RQ2, RQ3, implies_true, forall_const, Nat.reduceMul, reduceIte, reduceCtorEq, Nat.reduceAdd, Nat.reduceEqDiff, Nat.reduceLT, Nat.reduceLeDiff, wk_pc]); simp
  · (simp -dsimp only [↓RP, RQ0, RQ1, RQ2, RQ3, implies_true, forall_const, Nat.reduceMul, reduceIte, reduceCtorEq, Nat.reduceAdd, Nat.reduceEqDiff, Nat.reduceLT, Nat.reduceLeDiff])
  · (simp -dsimp only [↓RP, RQ0, RQ1, RQ2, RQ3, implies_true, forall_const, Nat.reduceMul, reduceIte, reduceCtorEq, Nat.reduceAdd, Nat.reduceEqDiff, Nat.reduceLT, Nat.reduceLeDiff])
  (repeat' (first | with_reducible refine splitVC_d (fun _ => ?_) (fun _ => ?_) | ((with_reducible refine And.intro ?_ ?_); focus (first | trivial | (simp only [InK]; omega) | omega | (simp only [InK, ne_eq, and_true, true_and]; omega))) | simp -dsimp only [↓RP, RQ0, RQ1, RQ2, RQ3, implies_true, forall_const, Nat.reduceMul, reduceIte, reduceCtorEq, Nat.reduceAdd, Nat.reduceEqDiff, Nat.reduceLT, Nat.reduceLeDiff, ty2, ty3, ty4, ty22, ty24, ty28, ty52, ty84, pc0, pc1, pc2, pc3, pc4, sel, Int.toNat_natCast, Go.Proofs.Try.results41]))
  · have hk := hfine i (by omega)
    have hs1 := (hsame i (by omega)).2.2.2.2
    have hq : q < (P i).n := by omega
    refine callN_old (c74 (P i) hk q) (by (simp -dsimp only [↓RP, RQ0, RQ1, RQ2, RQ3, implies_true, forall_const, Nat.reduceMul, reduceIte, reduceCtorEq, Nat.reduceAdd, Nat.reduceEqDiff, Nat.reduceLT, Nat.reduceLeDiff, Pool.sv, rngs, I]); all_goals simp) (by simp [ClO]) (by simp [ClB, ClL, Cl, dk, rngs, I, Pool.netsV, gN]) ?_
    (repeat' (first | with_reducible refine splitVC_d (fun _ => ?_) (fun _ => ?_) | ((with_reducible refine And.intro ?_ ?_); focus (first | trivial | (simp only [InK]; omega) | omega | (simp only [InK, ne_eq, and_true, true_and]; omega))) | simp -dsimp only [↓RP, RQ0, RQ1, RQ2, RQ3, implies_true, forall_const, Nat.reduceMul, reduceIte, reduceCtorEq, Nat.reduceAdd, Nat.reduceEqDiff, Nat.reduceLT, Nat.reduceLeDiff, I, ty2, ty3, ty4, ty22, ty24, ty28, ty52, ty84, pc0, pc1, pc2, pc3, pc4, sel, Go.Proofs.Try.results41]))
    refine callVC (c70 (P i) hk q hq d (by omega) (by omega)) (by simp only [SubL]; exact ⟨D_fits (P i) q (by rfl), by (simp -dsimp only [↓RP, RQ0, RQ1, RQ2, RQ3, implies_true, forall_const, Nat.reduceMul, reduceIte, reduceCtorEq, Nat.reduceAdd, Nat.reduceEqDiff, Nat.reduceLT, Nat.reduceLeDiff, I])⟩) (by (simp -dsimp only [↓RP, RQ0, RQ1, RQ2, RQ3, implies_true, forall_const, Nat.reduceMul, reduceIte, reduceCtorEq, Nat.reduceAdd, Nat.reduceEqDiff, Nat.reduceLT, Nat.reduceLeDiff, I])) ?_
    rw [wst_sLo (P i) hk q hq]
    (repeat' (first | with_reducible refine splitVC_d (fun _ => ?_) (fun _ => ?_) | ((with_reducible refine And.intro ?_ ?_); focus (first | trivial | (simp only [InK]; omega) | omega | (simp only [InK, ne_eq, and_true, true_and]; omega))) | simp -dsimp only [↓RP, RQ0, RQ1, RQ2, RQ3, implies_true, forall_const, Nat.reduceMul, reduceIte, reduceCtorEq, Nat.reduceAdd, Nat.reduceEqDiff, Nat.reduceLT, Nat.reduceLeDiff, I, ty2, ty3, ty4, ty22, ty24, ty28, ty35, pl35, ty52, ty84, pc0, pc1, pc2, pc3, pc4, sel, Go.Proofs.Try.results41]))
    · rename_i h1
      have e := fstI_at (safeP P q d) m 0 i (by omega) (by omega) (fun j _ hj => by simp [safeP, hi.2 j hj]) (by simp [safeP, h1])
      rw [e, if_neg (by omega)] at eW
      exact tup2 (by unfold whenV; rw [eW, if_pos rfl, e]) eW.symm
    · rename_i h1
      refine ⟨i + 1, ⟨by omega, fun j hj => ?_⟩, by omega, weak [] [] ?_ ?_ ?_⟩
      · by_cases e : j = i
        · subst e; omega
        · exact hi.2 j (by omega)
      · (simp -dsimp only [↓RP, RQ0, RQ1, RQ2, RQ3, implies_true, forall_const, Nat.reduceMul, reduceIte, reduceCtorEq, Nat.reduceAdd, Nat.reduceEqDiff, Nat.reduceLT, Nat.reduceLeDiff, wk_pc]); simp
      · (simp -dsimp only [↓RP, RQ0, RQ1, RQ2, RQ3, implies_true, forall_const, Nat.reduceMul, reduceIte, reduceCtorEq, Nat.reduceAdd, Nat.reduceEqDiff, Nat.reduceLT, Nat.reduceLeDiff])
      · (simp -dsimp only [↓RP, RQ0, RQ1, RQ2, RQ3, implies_true, forall_const, Nat.reduceMul, reduceIte, reduceCtorEq, Nat.reduceAdd, Nat.reduceEqDiff, Nat.reduceLT, Nat.reduceLeDiff])
  · have e := fstI_no (safeP P q d) m 0 fun j _ hj => by simp [safeP, hi.2 j (by omega)]
    rw [e, if_pos (by omega)] at eW
    exact tup2 (by simp [whenV, eW]) eW.symm
end Go.Po
end
section
set_option linter.unusedSimpArgs false
set_option linter.unusedVariables false
set_option maxRecDepth 100000
set_option maxHeartbeats 8000000
namespace Go.Po
open Go.Sx
theorem ty5 : tyOf Go.Proofs.Try.prog 5 = some ⟨false, 1, some [.int .u8 0], .int .u8⟩ := by kernel_rfl
theorem ty56 : tyOf Go.Proofs.Try.prog 56 = some ⟨false, 1, some [.int .u32 0], .int .u32⟩ := by kernel_rfl
theorem ty57 : tyOf Go.Proofs.Try.prog 57 = some ⟨false, 1, some [.slice none 0 0], .slice 5 1⟩ := by kernel_rfl
theorem c18 (p : Pool) : Contract Go.Proofs.Try.prog 18 [p.sv] (B (decide ((20 : Int) < p.n))) := by
  refine contract_of Go.Proofs.Try.func18 rfl (by kernel_rfl) follows (by kernel_rfl) _ _ (by rw [Go.Proofs.Try.ntmps18]; simp) (by simp [OldL, p.old]) ?_
  unfold B
  conv => arg 4; unfold Pool.sv rngs I
  (repeat' (first | with_reducible refine splitVC_d (fun _ => ?_) (fun _ => ?_) | ((with_reducible refine And.intro ?_ ?_); focus (first | trivial | (simp only [InK]; omega) | omega | (simp only [InK, ne_eq, and_true, true_and]; omega))) | simp -dsimp only [↓RP, RQ0, RQ1, RQ2, RQ3, implies_true, forall_const, Nat.reduceMul, reduceIte, reduceCtorEq, Nat.reduceAdd, Nat.reduceEqDiff, Nat.reduceLT, Nat.reduceLeDiff, ty3, ty4, ty22, ty24, Go.Proofs.Try.results18]))
theorem c49 (a b : Int) : Contract Go.Proofs.Try.prog 49 [I a, I b] (rg a b) := by
  refine contract_of Go.Proofs.Try.func49 rfl (by kernel_rfl) follows (by kernel_rfl) _ _ (by rw [Go.Proofs.Try.ntmps49]; simp) (by simp [OldL, Old, I]) ?_
  unfold rg I
  (repeat' (first | with_reducible refine splitVC_d (fun _ => ?_) (fun _ => ?_) | ((with_reducible refine And.intro ?_ ?_); focus (first | trivial | (simp only [InK]; omega) | omega | (simp only [InK, ne_eq, and_true, true_and]; omega))) | simp -dsimp only [↓RP, RQ0, RQ1, RQ2, RQ3, implies_true, forall_const, Nat.reduceMul, reduceIte, reduceCtorEq, Nat.reduceAdd, Nat.reduceEqDiff, Nat.reduceLT, Nat.reduceLeDiff, ty2, ty35, pl35, Go.Proofs.Try.results49]))
theorem c43 (p : Pool) : Contract Go.Proofs.Try.prog 43 [p.sv] (B (decide (¬ (20 : Int) < p.n ∧ p.err = 0))) := by
  refine contract_of Go.Proofs.Try.func43 rfl (by kernel_rfl) follows (by kernel_rfl) _ _ (by rw [Go.Proofs.Try.ntmps43]; simp) (by simp [OldL, p.old]) ?_
  unfold B
  conv => arg 4; unfold Pool.sv rngs I
  (repeat' (first | with_reducible refine splitVC_d (fun _ => ?_) (fun _ => ?_) | ((with_reducible refine And.intro ?_ ?_); focus (first | trivial | (simp only [InK]; omega) | omega | (simp only [InK, ne_eq, and_true, true_and]; omega))) | simp -dsimp only [↓RP, RQ0, RQ1, RQ2, RQ3, implies_true, forall_const, Nat.reduceMul, reduceIte, reduceCtorEq, Nat.reduceAdd, Nat.reduceEqDiff, Nat.reduceLT, Nat.reduceLeDiff, ty3, ty4, ty22, ty24, ty28, Go.Proofs.Try.results43]))
  refine callVC (c18 p) (by (simp -dsimp only [↓RP, RQ0, RQ1, RQ2, RQ3, implies_true, forall_const, Nat.reduceMul, reduceIte, reduceCtorEq, Nat.reduceAdd, Nat.reduceEqDiff, Nat.reduceLT, Nat.reduceLeDiff, Pool.sv, rngs, I]); simp) (by (simp -dsimp only [↓RP, RQ0, RQ1, RQ2, RQ3, implies_true, forall_const, Nat.reduceMul, reduceIte, reduceCtorEq, Nat.reduceAdd, Nat.reduceEqDiff, Nat.reduceLT, Nat.reduceLeDiff, B])) ?_
  (repeat' (first | with_reducible refine splitVC_d (fun _ => ?_) (fun _ => ?_) | ((with_reducible refine And.intro ?_ ?_); focus (first | trivial | (simp only [InK]; omega) | omega | (simp only [InK, ne_eq, and_true, true_and]; omega))) | simp -dsimp only [↓RP, RQ0, RQ1, RQ2, RQ3, implies_true, forall_const, Nat.reduceMul, reduceIte, reduceCtorEq, Nat.reduceAdd, Nat.reduceEqDiff, Nat.reduceLT, Nat.reduceLeDiff, B, ty3, ty4, ty22, ty24, ty28, Go.Proofs.Try.results43]))
  · rename_i h
    refine B_eq ?_; symm; exact decide_eq_false (fun e => e.1 h)
  · rename_i h
    refine callVC (c25 p) (by (simp -dsimp only [↓RP, RQ0, RQ1, RQ2, RQ3, implies_true, forall_const, Nat.reduceMul, reduceIte, reduceCtorEq, Nat.reduceAdd, Nat.reduceEqDiff, Nat.reduceLT, Nat.reduceLeDiff, Pool.sv, rngs, I]); simp) (by (simp -dsimp only [↓RP, RQ0, RQ1, RQ2, RQ3, implies_true, forall_const, Nat.reduceMul, reduceIte, reduceCtorEq, Nat.reduceAdd, Nat.reduceEqDiff, Nat.reduceLT, Nat.reduceLeDiff, I])) ?_
    (repeat' (first | with_reducible refine splitVC_d (fun _ => ?_) (fun _ => ?_) | ((with_reducible refine And.intro ?_ ?_); focus (first | trivial | (simp only [InK]; omega) | omega | (simp only [InK, ne_eq, and_true, true_and]; omega))) | simp -dsimp only [↓RP, RQ0, RQ1, RQ2, RQ3, implies_true, forall_const, Nat.reduceMul, reduceIte, reduceCtorEq, Nat.reduceAdd, Nat.reduceEqDiff, Nat.reduceLT, Nat.reduceLeDiff, I, ty3, ty4, ty22, ty24, ty28, Go.Proofs.Try.results43]))
    refine B_eq ?_; rw [Bool.eq_iff_iff]; simp; omega
def Pool.leftL (p : Pool) (m : Nat) (u : Nat → Int) (r d : Int) : Int := if p.leftE m u r d = 0 then p.leftV m u r d else 1099511627776
theorem c31 (p : Pool) (m : Nat) (u : Nat → Int) (r d : Int) : Contract Go.Proofs.Try.prog 31 [p.sv, ints m u, I r, I d] (I (p.leftL m u r d)) := by
  refine contract_of Go.Proofs.Try.func31 rfl (by kernel_rfl) follows (by kernel_rfl) _ _ (by rw [Go.Proofs.Try.ntmps31]; simp) (by simp [OldL, p.old]; simp [Old, ints, I]) ?_
  unfold I
  conv => arg 4; unfold Pool.sv rngs I ints
  (repeat' (first | with_reducible refine splitVC_d (fun _ => ?_) (fun _ => ?_) | ((with_reducible refine And.intro ?_ ?_); focus (first | trivial | (simp only [InK]; omega) | omega | (simp only [InK, ne_eq, and_true, true_and]; omega))) | simp -dsimp only [↓RP, RQ0, RQ1, RQ2, RQ3, implies_true, forall_const, Nat.reduceMul, reduceIte, reduceCtorEq, Nat.reduceAdd, Nat.reduceEqDiff, Nat.reduceLT, Nat.reduceLeDiff, ty2, ty3, ty4, ty22, ty24, ty25, ty28, Go.Proofs.Try.results31]))
  refine callVC (c23 p m u r d) (by (simp -dsimp only [↓RP, RQ0, RQ1, RQ2, RQ3, implies_true, forall_const, Nat.reduceMul, reduceIte, reduceCtorEq, Nat.reduceAdd, Nat.reduceEqDiff, Nat.reduceLT, Nat.reduceLeDiff, Pool.sv, rngs, I, ints]); simp) (by (simp -dsimp only [↓RP, RQ0, RQ1, RQ2, RQ3, implies_true, forall_const, Nat.reduceMul, reduceIte, reduceCtorEq, Nat.reduceAdd, Nat.reduceEqDiff, Nat.reduceLT, Nat.reduceLeDiff, I])) ?_
  (repeat' (first | with_reducible refine splitVC_d (fun _ => ?_) (fun _ => ?_) | ((with_reducible refine And.intro ?_ ?_); focus (first | trivial | (simp only [InK]; omega) | omega | (simp only [InK, ne_eq, and_true, true_and]; omega))) | simp -dsimp only [↓RP, RQ0, RQ1, RQ2, RQ3, implies_true, forall_const, Nat.reduceMul, reduceIte, reduceCtorEq, Nat.reduceAdd, Nat.reduceEqDiff, Nat.reduceLT, Nat.reduceLeDiff, I, ty2, ty3, ty4, ty22, ty24, ty25, ty28, Go.Proofs.Try.results31]))
  · rename_i h
    refine I_eq ?_; unfold Pool.leftL; rw [if_pos h]
  · rename_i h
    refine I_eq ?_; unfold Pool.leftL; rw [if_neg h]
def sameL (m : Nat) (u : Nat → Int) (n : Nat) (v : Nat → Int) : Prop := m = n ∧ ∀ i, i < m → u i = v i
instance (m : Nat) (u : Nat → Int) (n : Nat) (v : Nat → Int) : Decidable (sameL m u n v) := by unfold sameL; infer_instance
theorem c36 (m : Nat) (u : Nat → Int) (n : Nat) (v : Nat → Int) (hm : m ≤ 1000000) : Contract Go.Proofs.Try.prog 36 [ints m u, ints n v] (B (decide (sameL m u n v))) := by
  refine contract_of Go.Proofs.Try.func36 rfl (by kernel_rfl) follows (by kernel_rfl) _ _ (by rw [Go.Proofs.Try.ntmps36]; simp) (by simp [OldL, Old, ints]) ?_
  unfold ints B
  (repeat' (first | with_reducible refine splitVC_d (fun _ => ?_) (fun _ => ?_) | ((with_reducible refine And.intro ?_ ?_); focus (first | trivial | (simp only [InK]; omega) | omega | (simp only [InK, ne_eq, and_true, true_and]; omega))) | simp -dsimp only [↓RP, RQ0, RQ1, RQ2, RQ3, implies_true, forall_const, Nat.reduceMul, reduceIte, reduceCtorEq, Nat.reduceAdd, Nat.reduceEqDiff, Nat.reduceLT, Nat.reduceLeDiff, ty2, ty3, ty4, ty25, Go.Proofs.Try.results36]))
  · rename_i hmn
    refine loop_vc (fun i => i ≤ m ∧ ∀ j, j < i → u j = v j) (fun i => ⟨[(0, .arr false false m 1 fun i _ => .val (.int .i64 (u i))), (1, .arr false false n 1 fun i _ => .val (.int .i64 (v i))), (5, .val (.int .i64 i))], [], 0⟩) (fun i => m - i) 0 ⟨by omega, fun j hj => by omega⟩ (weak [] [] ?_ ?_ ?_) fun i hi => ?_
    · (simp -dsimp only [↓RP, RQ0, RQ1, RQ2, RQ3, implies_true, forall_const, Nat.reduceMul, reduceIte, reduceCtorEq, Nat.reduceAdd, Nat.reduceEqDiff, Nat.reduceLT, Nat.reduceLeDiff]); all_goals simp
    · (simp -dsimp only [↓RP, RQ0, RQ1, RQ2, RQ3, implies_true, forall_const, Nat.reduceMul, reduceIte, reduceCtorEq, Nat.reduceAdd, Nat.reduceEqDiff, Nat.reduceLT, Nat.reduceLeDiff])
    · (simp -dsimp only [↓RP, RQ0, RQ1, RQ2, RQ3, implies_true, forall_const, Nat.reduceMul, reduceIte, reduceCtorEq, Nat.reduceAdd, Nat.reduceEqDiff, Nat.reduceLT, Nat.reduceLeDiff])
    (repeat' (first | with_reducible refine splitVC_d (fun _ => ?_) (fun _ => ?_) | ((with_reducible refine And.intro ?_ ?_); focus (first | trivial | (simp only [InK]; omega) | omega | (simp only [InK, ne_eq, and_true, true_and]; omega))) | simp -dsimp only [↓RP, RQ0, RQ1, RQ2, RQ3, implies_true, forall_const, Nat.reduceMul, reduceIte, reduceCtorEq, Nat.reduceAdd, Nat.reduceEqDiff, Nat.reduceLT, Nat.reduceLeDiff, ty2, ty3, ty4, ty25, Go.Proofs.Try.results36]))
    · rename_i h1 h2
      refine ⟨i + 1, ⟨by omega, fun j hj => ?_⟩, by omega, weak [] [] ?_ ?_ ?_⟩
      · by_cases e : j = i
        · subst e; exact h2
        · exact hi.2 j (by omega)
      · (simp -dsimp only [↓RP, RQ0, RQ1, RQ2, RQ3, implies_true, forall_const, Nat.reduceMul, reduceIte, reduceCtorEq, Nat.reduceAdd, Nat.reduceEqDiff, Nat.reduceLT, Nat.reduceLeDiff]); all_goals simp
      · (simp -dsimp only [↓RP, RQ0, RQ1, RQ2, RQ3, implies_true, forall_const, Nat.reduceMul, reduceIte, reduceCtorEq, Nat.reduceAdd, Nat.reduceEqDiff, Nat.reduceLT, Nat.reduceLeDiff])
      · (simp -dsimp only [↓RP, RQ0, RQ1, RQ2, RQ3, implies_true, forall_const, Nat.reduceMul, reduceIte, reduceCtorEq, Nat.reduceAdd, Nat.reduceEqDiff, Nat.reduceLT, Nat.reduceLeDiff])
    · rename_i h1 h2
      refine B_eq ?_; symm; exact decide_eq_false fun e => h2 (e.2 i (by omega))
    · rename_i h1
      refine B_eq ?_; symm; exact decide_eq_true ⟨by omega, fun j hj => hi.2 j (by omega)⟩
  · rename_i hmn
    refine B_eq ?_; symm; exact decide_eq_false fun e => hmn (by rw [e.1])
theorem c44 (p : Pool) (h : p.Fine) (b : Int) (h0 : 0 ≤ b) (h1 : b ≤ 4294967295) : Contract Go.Proofs.Try.prog 44 [p.sv, .val (.int .u32 b)] (I (b.tmod (Int.tdiv 100000 p.step + 1) * p.step)) := by
  refine contract_of Go.Proofs.Try.func44 rfl (by kernel_rfl) follows (by kernel_rfl) _ _ (by rw [Go.Proofs.Try.ntmps44]; simp) (by simp [OldL, p.old]; simp [Old]) ?_
  have hs := h.step1
  have hs2 := h.step2
  have ht := tdiv_le 100000 p.step (by omega) hs
  have hm0 := Int.tmod_nonneg (Int.tdiv 100000 p.step + 1) h0
  have hm1 := Int.tmod_lt_of_pos b (show 0 < Int.tdiv 100000 p.step + 1 by omega)
  have hm2 : b.tmod (Int.tdiv 100000 p.step + 1) * p.step ≤ Int.tdiv 100000 p.step * p.step := Int.mul_le_mul_of_nonneg_right (by omega) (by omega)
  have hm3 : 0 ≤ b.tmod (Int.tdiv 100000 p.step + 1) * p.step := Int.mul_nonneg hm0 (by omega)
  unfold I
  conv => arg 4; unfold Pool.sv rngs I
  (repeat' (first | with_reducible refine splitVC_d (fun _ => ?_) (fun _ => ?_) | ((with_reducible refine And.intro ?_ ?_); focus (first | trivial | (simp only [InK]; omega) | omega | (simp only [InK, ne_eq, and_true, true_and]; omega))) | simp -dsimp only [↓RP, RQ0, RQ1, RQ2, RQ3, implies_true, forall_const, Nat.reduceMul, reduceIte, reduceCtorEq, Nat.reduceAdd, Nat.reduceEqDiff, Nat.reduceLT, Nat.reduceLeDiff, ty2, ty24, ty56, Go.Proofs.Try.results44]))
  (first | trivial | (simp only [InK]; omega) | omega | (simp only [InK, ne_eq, and_true, true_and]; omega))
theorem c48 (lo hi a b : Int) (h0 : 0 ≤ lo) (h1 : lo ≤ hi) (h2 : hi ≤ 200) (a0 : 0 ≤ a) (a1 : a ≤ 255) (b0 : 0 ≤ b) (b1 : b ≤ 255) :
    Contract Go.Proofs.Try.prog 48 [rg lo hi, .val (.int .u8 a), .val (.int .u8 b)] (rg (lo + a.tmod (hi - lo + 1)) (lo + a.tmod (hi - lo + 1) + b.tmod (hi - (lo + a.tmod (hi - lo + 1)) + 1))) := by
  refine contract_of Go.Proofs.Try.func48 rfl (by kernel_rfl) follows (by kernel_rfl) _ _ (by rw [Go.Proofs.Try.ntmps48]; simp) (by simp [OldL, Old, rg, I]) ?_
  have hm0 := Int.tmod_nonneg (hi - lo + 1) a0
  have hm1 := Int.tmod_lt_of_pos a (show 0 < hi - lo + 1 by omega)
  have hn0 := Int.tmod_nonneg (hi - (lo + a.tmod (hi - lo + 1)) + 1) b0
  have hn1 := Int.tmod_lt_of_pos b (show 0 < hi - (lo + a.tmod (hi - lo + 1)) + 1 by omega)
  unfold rg I
  (repeat' (first | with_reducible refine splitVC_d (fun _ => ?_) (fun _ => ?_) | ((with_reducible refine And.intro ?_ ?_); focus (first | trivial | (simp only [InK]; omega) | omega | (simp only [InK, ne_eq, and_true, true_and]; omega))) | simp -dsimp only [↓RP, RQ0, RQ1, RQ2, RQ3, implies_true, forall_const, Nat.reduceMul, reduceIte, reduceCtorEq, Nat.reduceAdd, Nat.reduceEqDiff, Nat.reduceLT, Nat.reduceLeDiff, ty2, ty5, ty35, pl35, Go.Proofs.Try.results48]))
  refine callVC (c49 (lo + a.tmod (hi - lo + 1)) (lo + a.tmod (hi - lo + 1) + b.tmod (hi - (lo + a.tmod (hi - lo + 1)) + 1))) (by (simp -dsimp only [↓RP, RQ0, RQ1, RQ2, RQ3, implies_true, forall_const, Nat.reduceMul, reduceIte, reduceCtorEq, Nat.reduceAdd, Nat.reduceEqDiff, Nat.reduceLT, Nat.reduceLeDiff, I])) (by (simp -dsimp only [↓RP, RQ0, RQ1, RQ2, RQ3, implies_true, forall_const, Nat.reduceMul, reduceIte, reduceCtorEq, Nat.reduceAdd, Nat.reduceEqDiff, Nat.reduceLT, Nat.reduceLeDiff, rg, I])) ?_
  (repeat' (first | with_reducible refine splitVC_d (fun _ => ?_) (fun _ => ?_) | ((with_reducible refine And.intro ?_ ?_); focus (first | trivial | (simp only [InK]; omega) | omega | (simp only [InK, ne_eq, and_true, true_and]; omega))) | simp -dsimp only [↓RP, RQ0, RQ1, RQ2, RQ3, implies_true, forall_const, Nat.reduceMul, reduceIte, reduceCtorEq, Nat.reduceAdd, Nat.reduceEqDiff, Nat.reduceLT, Nat.reduceLeDiff, rg, I, ty2, ty5, ty35, pl35, Go.Proofs.Try.results48]))
def Pool.byT (p : Pool) (m : Nat) (b : Nat → Int) (i : Nat) : Int := if 0 < m then p.lo i + (b (i % m)).tmod (p.hi i - p.lo i + 1) else p.lo i
def by8 (m : Nat) (b : Nat → Int) : SV := .arr false false m 1 (fun i _ => .val (.int .u8 (b i)))
theorem c45 (p : Pool) (h : p.Fine) (m : Nat) (b : Nat → Int) (hm : m ≤ 1000000) (hb : ∀ i, i < m → 0 ≤ b i ∧ b i ≤ 255) : ContractN Go.Proofs.Try.prog 45 [p.sv, by8 m b] (.rows 2 1 p.n (fun i _ => I (p.byT m b i))) (.vec 0 p.n 1) := by
  refine contractN_of Go.Proofs.Try.func45 rfl (by kernel_rfl) follows (by kernel_rfl) _ _ _ (by rw [Go.Proofs.Try.ntmps45]; simp) (by simp [OldL, p.old]; simp [Old, by8]) ?_
  have h8 := h.n8
  unfold I
  conv => arg 4; unfold Pool.sv rngs I by8
  (repeat' (first | with_reducible refine splitVC_d (fun _ => ?_) (fun _ => ?_) | ((with_reducible refine And.intro ?_ ?_); focus (first | trivial | (simp only [InK]; omega) | omega | (simp only [InK, ne_eq, and_true, true_and]; omega))) | simp -dsimp only [↓RP, RQ0, RQ1, RQ2, RQ3, implies_true, forall_const, Nat.reduceMul, reduceIte, reduceCtorEq, Nat.reduceAdd, Nat.reduceEqDiff, Nat.reduceLT, Nat.reduceLeDiff, ty2, ty3, ty4, ty5, ty22, ty24, ty25, ty35, ty57, by2, Go.Proofs.Try.results45]))
  refine loop_vc (fun i => i ≤ p.n) (fun i => ⟨[(1, .arr false false m 1 (fun i _ => .val (.int .u8 (b i)))), (2, .ptr 0 0), (5, .vec 80 i 1), (6, .val (.int .i64 i))], [(80, .rows 2 1 i (fun i _ => .val (.int .i64 (p.byT m b i)))), (0, pB p)], 81⟩) (fun i => p.n - i) 0 (Nat.zero_le _) (weak [(80, none)] [] ?_ ?_ ?_) fun i hi => ?_
  · (simp -dsimp only [↓RP, RQ0, RQ1, RQ2, RQ3, implies_true, forall_const, Nat.reduceMul, reduceIte, reduceCtorEq, Nat.reduceAdd, Nat.reduceEqDiff, Nat.reduceLT, Nat.reduceLeDiff]); all_goals simp
  · (simp -dsimp only [↓RP, RQ0, RQ1, RQ2, RQ3, implies_true, forall_const, Nat.reduceMul, reduceIte, reduceCtorEq, Nat.reduceAdd, Nat.reduceEqDiff, Nat.reduceLT, Nat.reduceLeDiff]); all_goals simp
  · (simp -dsimp only [↓RP, RQ0, RQ1, RQ2, RQ3, implies_true, forall_const, Nat.reduceMul, reduceIte, reduceCtorEq, Nat.reduceAdd, Nat.reduceEqDiff, Nat.reduceLT, Nat.reduceLeDiff]); all_goals simp
  by_cases hlt : i < p.n
  · have hr := h.rg i hlt
    by_cases hm0 : 0 < m
    · have eB : p.byT m b i = p.lo i + (b (i % m)).tmod (p.hi i - p.lo i + 1) := by unfold Pool.byT; rw [if_pos hm0]
      have hbi := hb (i % m) (Nat.mod_lt _ hm0)
      have hq0 := Int.tmod_nonneg (p.hi i - p.lo i + 1) hbi.1
      have hq1 := Int.tmod_lt_of_pos (b (i % m)) (show 0 < p.hi i - p.lo i + 1 by omega)
      have ei : ((i : Int).tmod m) = ((i % m : Nat) : Int) := by rw [Int.tmod_eq_emod_of_nonneg (by omega)]; simp
      have him := Nat.mod_lt i hm0
      (repeat' (first | with_reducible refine splitVC_d (fun _ => ?_) (fun _ => ?_) | ((with_reducible refine And.intro ?_ ?_); focus (first | trivial | (simp only [InK]; omega) | omega | (simp only [InK, ne_eq, and_true, true_and]; omega))) | simp -dsimp only [↓RP, RQ0, RQ1, RQ2, RQ3, implies_true, forall_const, Nat.reduceMul, reduceIte, reduceCtorEq, Nat.reduceAdd, Nat.reduceEqDiff, Nat.reduceLT, Nat.reduceLeDiff, ty2, ty3, ty4, ty5, ty22, ty24, ty25, ty35, ty57, by2, ei, Int.toNat_natCast, Go.Proofs.Try.results45]))
      rotate_left
      · exfalso; omega
      · exfalso; omega
      rw [← eB]
      refine ⟨⟨.inr trivial, Nat.le_refl _, fun a c ha hc => by rw [lit1 _ a c ha hc]; rfl, by omega⟩, by (first | trivial | (simp only [InK]; omega) | omega | (simp only [InK, ne_eq, and_true, true_and]; omega)), i + 1, by omega, by omega, weak [(80, some 120)] [] ?_ ?_ ?_⟩
      · (simp -dsimp only [↓RP, RQ0, RQ1, RQ2, RQ3, implies_true, forall_const, Nat.reduceMul, reduceIte, reduceCtorEq, Nat.reduceAdd, Nat.reduceEqDiff, Nat.reduceLT, Nat.reduceLeDiff]); all_goals simp
      · (simp -dsimp only [↓RP, RQ0, RQ1, RQ2, RQ3, implies_true, forall_const, Nat.reduceMul, reduceIte, reduceCtorEq, Nat.reduceAdd, Nat.reduceEqDiff, Nat.reduceLT, Nat.reduceLeDiff]); all_goals simp
        exact fun a h1 h2 => app2 (fun j => .val (.int .i64 (p.byT m b j))) i a h1 h2
      · (simp -dsimp only [↓RP, RQ0, RQ1, RQ2, RQ3, implies_true, forall_const, Nat.reduceMul, reduceIte, reduceCtorEq, Nat.reduceAdd, Nat.reduceEqDiff, Nat.reduceLT, Nat.reduceLeDiff]); all_goals simp
    · have eB : p.byT m b i = p.lo i := by unfold Pool.byT; rw [if_neg hm0]
      (repeat' (first | with_reducible refine splitVC_d (fun _ => ?_) (fun _ => ?_) | ((with_reducible refine And.intro ?_ ?_); focus (first | trivial | (simp only [InK]; omega) | omega | (simp only [InK, ne_eq, and_true, true_and]; omega))) | simp -dsimp only [↓RP, RQ0, RQ1, RQ2, RQ3, implies_true, forall_const, Nat.reduceMul, reduceIte, reduceCtorEq, Nat.reduceAdd, Nat.reduceEqDiff, Nat.reduceLT, Nat.reduceLeDiff, ty2, ty3, ty4, ty5, ty22, ty24, ty25, ty35, ty57, by2, Int.toNat_natCast, Go.Proofs.Try.results45]))
      · exfalso; omega
      rotate_left
      · exfalso; omega
      rw [← eB]
      refine ⟨⟨.inr trivial, Nat.le_refl _, fun a c ha hc => by rw [lit1 _ a c ha hc]; rfl, by omega⟩, by (first | trivial | (simp only [InK]; omega) | omega | (simp only [InK, ne_eq, and_true, true_and]; omega)), i + 1, by omega, by omega, weak [(80, some 102)] [] ?_ ?_ ?_⟩
      · (simp -dsimp only [↓RP, RQ0, RQ1, RQ2, RQ3, implies_true, forall_const, Nat.reduceMul, reduceIte, reduceCtorEq, Nat.reduceAdd, Nat.reduceEqDiff, Nat.reduceLT, Nat.reduceLeDiff]); all_goals simp
      · (simp -dsimp only [↓RP, RQ0, RQ1, RQ2, RQ3, implies_true, forall_const, Nat.reduceMul, reduceIte, reduceCtorEq, Nat.reduceAdd, Nat.reduceEqDiff, Nat.reduceLT, Nat.reduceLeDiff]); all_goals simp
        exact fun a h1 h2 => app2 (fun j => .val (.int .i64 (p.byT m b j))) i a h1 h2
      · (simp -dsimp only [↓RP, RQ0, RQ1, RQ2, RQ3, implies_true, forall_const, Nat.reduceMul, reduceIte, reduceCtorEq, Nat.reduceAdd, Nat.reduceEqDiff, Nat.reduceLT, Nat.reduceLeDiff]); all_goals simp
  · have e : i = p.n := by omega
    subst e
    (repeat' (first | with_reducible refine splitVC_d (fun _ => ?_) (fun _ => ?_) | ((with_reducible refine And.intro ?_ ?_); focus (first | trivial | (simp only [InK]; omega) | omega | (simp only [InK, ne_eq, and_true, true_and]; omega))) | simp -dsimp only [↓RP, RQ0, RQ1, RQ2, RQ3, implies_true, forall_const, Nat.reduceMul, reduceIte, reduceCtorEq, Nat.reduceAdd, Nat.reduceEqDiff, Nat.reduceLT, Nat.reduceLeDiff, ty2, ty3, ty4, ty5, ty22, ty24, ty25, ty35, ty57, by2, Go.Proofs.Try.results45]))
    all_goals first | (exfalso; omega) | skip
    refine ⟨80, _, rfl, ?_, ?_⟩
    · (simp -dsimp only [↓RP, RQ0, RQ1, RQ2, RQ3, implies_true, forall_const, Nat.reduceMul, reduceIte, reduceCtorEq, Nat.reduceAdd, Nat.reduceEqDiff, Nat.reduceLT, Nat.reduceLeDiff]); all_goals simp
    · (simp -dsimp only [↓RP, RQ0, RQ1, RQ2, RQ3, implies_true, forall_const, Nat.reduceMul, reduceIte, reduceCtorEq, Nat.reduceAdd, Nat.reduceEqDiff, Nat.reduceLT, Nat.reduceLeDiff])
theorem c46n (p : Pool) (hn : p.n ≤ 1000000) (r : Nat) (d : Int) (h : p.asked r d = 0) (hs : 0 ≤ p.sLo r d) : Contract Go.Proofs.Try.prog 46 [p.sv, I r, I d] (.tup [B true, B true]) := by
  refine contract_of Go.Proofs.Try.func46 rfl (by kernel_rfl) follows (by kernel_rfl) _ _ (by rw [Go.Proofs.Try.ntmps46]; simp) (by simp [OldL, p.old]; simp [Old, I]) ?_
  unfold B
  conv => arg 4; unfold Pool.sv rngs I
  (repeat' (first | with_reducible refine splitVC_d (fun _ => ?_) (fun _ => ?_) | ((with_reducible refine And.intro ?_ ?_); focus (first | trivial | (simp only [InK]; omega) | omega | (simp only [InK, ne_eq, and_true, true_and]; omega))) | simp -dsimp only [↓RP, RQ0, RQ1, RQ2, RQ3, implies_true, forall_const, Nat.reduceMul, reduceIte, reduceCtorEq, Nat.reduceAdd, Nat.reduceEqDiff, Nat.reduceLT, Nat.reduceLeDiff, ty2, ty3, ty4, ty24, ty25, ty28, Go.Proofs.Try.results46]))
  refine callVC (c37n p hn r d h hs) (by (simp -dsimp only [↓RP, RQ0, RQ1, RQ2, RQ3, implies_true, forall_const, Nat.reduceMul, reduceIte, reduceCtorEq, Nat.reduceAdd, Nat.reduceEqDiff, Nat.reduceLT, Nat.reduceLeDiff, Pool.sv, rngs, I]); all_goals simp) (by (simp -dsimp only [↓RP, RQ0, RQ1, RQ2, RQ3, implies_true, forall_const, Nat.reduceMul, reduceIte, reduceCtorEq, Nat.reduceAdd, Nat.reduceEqDiff, Nat.reduceLT, Nat.reduceLeDiff, I])) ?_
  (repeat' (first | with_reducible refine splitVC_d (fun _ => ?_) (fun _ => ?_) | ((with_reducible refine And.intro ?_ ?_); focus (first | trivial | (simp only [InK]; omega) | omega | (simp only [InK, ne_eq, and_true, true_and]; omega))) | simp -dsimp only [↓RP, RQ0, RQ1, RQ2, RQ3, implies_true, forall_const, Nat.reduceMul, reduceIte, reduceCtorEq, Nat.reduceAdd, Nat.reduceEqDiff, Nat.reduceLT, Nat.reduceLeDiff, I, ty2, ty3, ty4, ty24, ty25, ty28, Go.Proofs.Try.results46]))
  all_goals first | (exfalso; omega) | skip
  all_goals first | rfl | (exfalso; rename_i hx; exact hx trivial)
theorem c46y (p : Pool) (hn : p.n ≤ 1000000) (r : Nat) (d : Int) (h : p.asked r d = 0) (hs : p.sLo r d < 0) : Contract Go.Proofs.Try.prog 46 [p.sv, I r, I d] (.tup [B false, B true]) := by
  refine contract_of Go.Proofs.Try.func46 rfl (by kernel_rfl) follows (by kernel_rfl) _ _ (by rw [Go.Proofs.Try.ntmps46]; simp) (by simp [OldL, p.old]; simp [Old, I]) ?_
  unfold B
  conv => arg 4; unfold Pool.sv rngs I
  (repeat' (first | with_reducible refine splitVC_d (fun _ => ?_) (fun _ => ?_) | ((with_reducible refine And.intro ?_ ?_); focus (first | trivial | (simp only [InK]; omega) | omega | (simp only [InK, ne_eq, and_true, true_and]; omega))) | simp -dsimp only [↓RP, RQ0, RQ1, RQ2, RQ3, implies_true, forall_const, Nat.reduceMul, reduceIte, reduceCtorEq, Nat.reduceAdd, Nat.reduceEqDiff, Nat.reduceLT, Nat.reduceLeDiff, ty2, ty3, ty4, ty24, ty25, ty28, Go.Proofs.Try.results46]))
  refine callN (c37o p hn r d h hs) (by (simp -dsimp only [↓RP, RQ0, RQ1, RQ2, RQ3, implies_true, forall_const, Nat.reduceMul, reduceIte, reduceCtorEq, Nat.reduceAdd, Nat.reduceEqDiff, Nat.reduceLT, Nat.reduceLeDiff, Pool.sv, rngs, I]); all_goals simp) (by simp [FreshO, FreshOL, I]) (by simp [FreshB, Fresh, I]) ?_
  (repeat' (first | with_reducible refine splitVC_d (fun _ => ?_) (fun _ => ?_) | ((with_reducible refine And.intro ?_ ?_); focus (first | trivial | (simp only [InK]; omega) | omega | (simp only [InK, ne_eq, and_true, true_and]; omega))) | simp -dsimp only [↓RP, RQ0, RQ1, RQ2, RQ3, implies_true, forall_const, Nat.reduceMul, reduceIte, reduceCtorEq, Nat.reduceAdd, Nat.reduceEqDiff, Nat.reduceLT, Nat.reduceLeDiff, I, ty2, ty3, ty4, ty24, ty25, ty28, Go.Proofs.Try.results46]))
  · refine callVC (c40 p p.n (p.wt r d) r d) (by (simp -dsimp only [↓RP, RQ0, RQ1, RQ2, RQ3, implies_true, forall_const, Nat.reduceMul, reduceIte, reduceCtorEq, Nat.reduceAdd, Nat.reduceEqDiff, Nat.reduceLT, Nat.reduceLeDiff, Pool.sv, rngs, I, ints]); all_goals simp) (by (simp -dsimp only [↓RP, RQ0, RQ1, RQ2, RQ3, implies_true, forall_const, Nat.reduceMul, reduceIte, reduceCtorEq, Nat.reduceAdd, Nat.reduceEqDiff, Nat.reduceLT, Nat.reduceLeDiff, I])) ?_
    rw [wt_chE p r d h hs]
    (repeat' (first | with_reducible refine splitVC_d (fun _ => ?_) (fun _ => ?_) | ((with_reducible refine And.intro ?_ ?_); focus (first | trivial | (simp only [InK]; omega) | omega | (simp only [InK, ne_eq, and_true, true_and]; omega))) | simp -dsimp only [↓RP, RQ0, RQ1, RQ2, RQ3, implies_true, forall_const, Nat.reduceMul, reduceIte, reduceCtorEq, Nat.reduceAdd, Nat.reduceEqDiff, Nat.reduceLT, Nat.reduceLeDiff, I, ty2, ty3, ty4, ty24, ty25, ty28, Go.Proofs.Try.results46]))
    simp
  all_goals first | (exfalso; omega) | (exfalso; rename_i hx; exact hx trivial) | (exfalso; rename_i hx _; exact hx trivial)
theorem c46 (p : Pool) (hn : p.n ≤ 1000000) (r : Nat) (d : Int) (h : p.asked r d = 0) : Contract Go.Proofs.Try.prog 46 [p.sv, I r, I d] (.tup [B (decide (0 ≤ p.sLo r d)), B true]) := by
  by_cases hs : 0 ≤ p.sLo r d
  · rw [decide_eq_true hs]; exact c46n p hn r d h hs
  · rw [decide_eq_false hs]; exact c46y p hn r d h (by omega)
end Go.Po
end
section
set_option linter.unusedSimpArgs false
set_option linter.unusedVariables false
set_option maxRecDepth 100000
set_option maxHeartbeats 16000000
namespace Go.Po
open Go.Sx
def Pool.svN (p : Pool) : SV := .agg [.arr true false p.n 2 (fun i j => .val (.int .i64 (if j = 0 then p.lo i else p.hi i))), I p.per, I p.pence, I p.keep, I p.step]
def pl (hi : Int) : Pool := ⟨2, fun i => if i = 0 then 3 else 10, fun i => if i = 0 then hi else 12, 1000, 100, 0, 10⟩
def plQ : Pool := ⟨2, fun i => if i = 0 then 3 else 10, fun i => if i = 0 then 5 else 12, 1500, 400, 0, 10⟩
theorem pl24 : placesOf Go.Proofs.Try.prog 24 = some [(0, 1), (1, 1), (2, 1), (3, 1), (4, 1)] := by kernel_rfl
theorem c52 (hi : Int) : Contract Go.Proofs.Try.prog 52 [I hi] (pl hi).svN := by
  refine contract_of Go.Proofs.Try.func52 rfl (by kernel_rfl) follows (by kernel_rfl) _ _ (by rw [Go.Proofs.Try.ntmps52]; simp) (by simp [OldL, Old, I]) ?_
  unfold Pool.svN I
  (repeat' (first | with_reducible refine splitVC_d (fun _ => ?_) (fun _ => ?_) | ((with_reducible refine And.intro ?_ ?_); focus (first | trivial | (simp only [InK]; omega) | omega | (simp only [InK, ne_eq, and_true, true_and]; omega))) | simp -dsimp only [↓RP, RQ0, RQ1, RQ2, RQ3, implies_true, forall_const, Nat.reduceMul, reduceIte, reduceCtorEq, Nat.reduceAdd, Nat.reduceEqDiff, Nat.reduceLT, Nat.reduceLeDiff, ty2, ty3, ty22, ty24, ty35, pl35, pl24, Go.Proofs.Try.results52]))
  refine callVC (c49 3 hi) (by (simp -dsimp only [↓RP, RQ0, RQ1, RQ2, RQ3, implies_true, forall_const, Nat.reduceMul, reduceIte, reduceCtorEq, Nat.reduceAdd, Nat.reduceEqDiff, Nat.reduceLT, Nat.reduceLeDiff, I])) (by (simp -dsimp only [↓RP, RQ0, RQ1, RQ2, RQ3, implies_true, forall_const, Nat.reduceMul, reduceIte, reduceCtorEq, Nat.reduceAdd, Nat.reduceEqDiff, Nat.reduceLT, Nat.reduceLeDiff, rg, I])) ?_
  (repeat' (first | with_reducible refine splitVC_d (fun _ => ?_) (fun _ => ?_) | ((with_reducible refine And.intro ?_ ?_); focus (first | trivial | (simp only [InK]; omega) | omega | (simp only [InK, ne_eq, and_true, true_and]; omega))) | simp -dsimp only [↓RP, RQ0, RQ1, RQ2, RQ3, implies_true, forall_const, Nat.reduceMul, reduceIte, reduceCtorEq, Nat.reduceAdd, Nat.reduceEqDiff, Nat.reduceLT, Nat.reduceLeDiff, rg, I, ty2, ty3, ty22, ty24, ty35, pl35, pl24, Go.Proofs.Try.results52]))
  refine callVC (c49 10 12) (by (simp -dsimp only [↓RP, RQ0, RQ1, RQ2, RQ3, implies_true, forall_const, Nat.reduceMul, reduceIte, reduceCtorEq, Nat.reduceAdd, Nat.reduceEqDiff, Nat.reduceLT, Nat.reduceLeDiff, I])) (by (simp -dsimp only [↓RP, RQ0, RQ1, RQ2, RQ3, implies_true, forall_const, Nat.reduceMul, reduceIte, reduceCtorEq, Nat.reduceAdd, Nat.reduceEqDiff, Nat.reduceLT, Nat.reduceLeDiff, rg, I])) ?_
  (repeat' (first | with_reducible refine splitVC_d (fun _ => ?_) (fun _ => ?_) | ((with_reducible refine And.intro ?_ ?_); focus (first | trivial | (simp only [InK]; omega) | omega | (simp only [InK, ne_eq, and_true, true_and]; omega))) | simp -dsimp only [↓RP, RQ0, RQ1, RQ2, RQ3, implies_true, forall_const, Nat.reduceMul, reduceIte, reduceCtorEq, Nat.reduceAdd, Nat.reduceEqDiff, Nat.reduceLT, Nat.reduceLeDiff, rg, I, ty2, ty3, ty22, ty24, ty35, pl35, pl24, Go.Proofs.Try.results52]))
  refine ⟨⟨rfl, Nat.le_refl _, fun i j hlt hj => ?_⟩, rfl, rfl, rfl, rfl⟩
  have hi' : i = 0 ∨ i = 1 := by have h2 : i < 2 := hlt; omega
  have hj' : j = 0 ∨ j = 1 := by omega
  rcases hi' with rfl | rfl <;> rcases hj' with rfl | rfl <;> rfl
theorem c53 : Contract Go.Proofs.Try.prog 53 [] plQ.svN := by
  refine contract_of Go.Proofs.Try.func53 rfl (by kernel_rfl) follows (by kernel_rfl) _ _ (by rw [Go.Proofs.Try.ntmps53]; simp) (by simp [OldL]) ?_
  unfold Pool.svN I
  (repeat' (first | with_reducible refine splitVC_d (fun _ => ?_) (fun _ => ?_) | ((with_reducible refine And.intro ?_ ?_); focus (first | trivial | (simp only [InK]; omega) | omega | (simp only [InK, ne_eq, and_true, true_and]; omega))) | simp -dsimp only [↓RP, RQ0, RQ1, RQ2, RQ3, implies_true, forall_const, Nat.reduceMul, reduceIte, reduceCtorEq, Nat.reduceAdd, Nat.reduceEqDiff, Nat.reduceLT, Nat.reduceLeDiff, ty2, ty3, ty22, ty24, ty35, pl35, pl24, Go.Proofs.Try.results53]))
  refine callVC (c52 5) (by (simp -dsimp only [↓RP, RQ0, RQ1, RQ2, RQ3, implies_true, forall_const, Nat.reduceMul, reduceIte, reduceCtorEq, Nat.reduceAdd, Nat.reduceEqDiff, Nat.reduceLT, Nat.reduceLeDiff, I])) (by (simp -dsimp only [↓RP, RQ0, RQ1, RQ2, RQ3, implies_true, forall_const, Nat.reduceMul, reduceIte, reduceCtorEq, Nat.reduceAdd, Nat.reduceEqDiff, Nat.reduceLT, Nat.reduceLeDiff, Pool.svN, I]); all_goals simp) ?_
  (repeat' (first | with_reducible refine splitVC_d (fun _ => ?_) (fun _ => ?_) | ((with_reducible refine And.intro ?_ ?_); focus (first | trivial | (simp only [InK]; omega) | omega | (simp only [InK, ne_eq, and_true, true_and]; omega))) | simp -dsimp only [↓RP, RQ0, RQ1, RQ2, RQ3, implies_true, forall_const, Nat.reduceMul, reduceIte, reduceCtorEq, Nat.reduceAdd, Nat.reduceEqDiff, Nat.reduceLT, Nat.reduceLeDiff, Pool.svN, I, ty2, ty3, ty22, ty24, ty35, pl35, pl24, Go.Proofs.Try.results53]))
  exact ⟨⟨id, rfl, fun i j hi hj => rfl⟩, rfl, rfl, rfl, rfl⟩
def l2 (x y : Int) : Nat → Int := fun i => if i = 0 then x else y
theorem lit2' (x y : Int) (i : Nat) (h : i < 2) : [SV.val (.int .i64 x), SV.val (.int .i64 y)][i]?.getD SV.top = SV.val (.int .i64 (l2 x y i)) := lit2 x y i h
def P2 (p q : Pool) : Nat → Pool := fun i => if i = 0 then p else q
theorem w20 : Contract Go.Proofs.Try.prog 20 [plQ.sv, ints 2 (l2 5 10)] (.tup [I 1100, I 0]) := by
  have := c20 plQ (by decide) 2 (l2 5 10)
  rwa [show plQ.netV 2 (l2 5 10) = 1100 by decide, show plQ.netE 2 (l2 5 10) = 0 by decide] at this
theorem w22 : Contract Go.Proofs.Try.prog 22 [(pl 5).sv, ints 2 (l2 5 10), I 0, I 290] (.tup [I (-50), I 0]) := by
  have := c22 (pl 5) (by decide) 2 (l2 5 10) 0 290
  rwa [show (pl 5).leftV 2 (l2 5 10) 0 290 = -50 by decide, show (pl 5).leftE 2 (l2 5 10) 0 290 = 0 by decide] at this
theorem w32 : Contract Go.Proofs.Try.prog 32 [(pl 5).sv, I 0] (.tup [I 280, I 0]) := by
  have := c32 (pl 5) (by decide) 0
  rwa [show (pl 5).divV 0 = 280 by decide, show (pl 5).divE 0 = 0 by decide] at this
theorem w34 : ContractN Go.Proofs.Try.prog 34 [(pl 8).sv] (.rows 2 1 2 (fun j _ => I ((pl 8).div j))) (.tup [.vec 0 2 1, I 0]) := c34o (pl 8) (by decide) (by decide)
theorem w26 : Contract Go.Proofs.Try.prog 26 [(pl 5).sv, I 0, I 280] (.tup [rg 0 560, I 0]) := by
  have := c26 (pl 5) (by decide) 0 280
  rwa [show (pl 5).spLo 0 280 = 0 by decide, show (pl 5).spHi 0 280 = 560 by decide, show (pl 5).asked 0 280 = 0 by decide] at this
theorem w30 : ContractN Go.Proofs.Try.prog 30 [(pl 5).sv, I 0, I 300] (.rows 2 1 2 (fun i _ => I ((pl 5).wt 0 300 i))) (.tup [.vec 0 2 1, I (-100), I 0]) := by
  have := c30o (pl 5) (by decide) 0 300 (by decide)
  rwa [show (pl 5).sLo ((0 : Nat) : Int) 300 = -100 by decide] at this
theorem w39 : Contract Go.Proofs.Try.prog 39 [(pl 5).sv, I 0, I 290, ints 2 (l2 5 10)] (I 0) := by
  have := c39 (pl 5) (by decide) 2 (l2 5 10) 0 290
  rwa [show (pl 5).chE 2 (l2 5 10) 0 290 = 0 by decide] at this
theorem w39' : Contract Go.Proofs.Try.prog 39 [(pl 5).sv, I 0, I 290, ints 2 (l2 4 10)] (I 14) := by
  have := c39 (pl 5) (by decide) 2 (l2 4 10) 0 290
  rwa [show (pl 5).chE 2 (l2 4 10) 0 290 = 14 by decide] at this
theorem w37 : ContractN Go.Proofs.Try.prog 37 [(pl 5).sv, I 0, I 290] (.rows 2 1 2 (fun i _ => I ((pl 5).wt 0 290 i))) (.tup [.vec 0 2 1, I 0]) := c37o (pl 5) (by decide) 0 290 (by decide) (by decide)
theorem w37' : Contract Go.Proofs.Try.prog 37 [(pl 5).sv, I 0, I 280] (.tup [.val (.slice none 0 0), I 5]) := c37n (pl 5) (by decide) 0 280 (by decide) (by decide)
theorem w28 : Contract Go.Proofs.Try.prog 28 [(pl 5).sv, I 0, I 300] (.tup [I 100, I 0]) := by
  have := c28 (pl 5) (by decide) 0 300
  rwa [show (pl 5).needV 0 300 = 100 by decide, show (pl 5).asked 0 300 = 0 by decide] at this
theorem hn2 (p q : Pool) (hp : p.n ≤ 1000000) (hq : q.n ≤ 1000000) : ∀ i, i < 2 → (P2 p q i).n ≤ 1000000 := fun i _ => by unfold P2; split <;> assumption
theorem w41 : Contract Go.Proofs.Try.prog 41 [pools 2 (P2 (pl 8) (pl 5)), I 0, I 250] (.tup [I 1, I 0]) := by
  have := c41 2 (P2 (pl 8) (pl 5)) 0 250 (by decide) (hn2 _ _ (by decide) (by decide))
  rwa [show whenV 2 (P2 (pl 8) (pl 5)) 0 250 = 1 by decide, show whenE 2 (P2 (pl 8) (pl 5)) 0 250 = 0 by decide] at this
theorem w41' : Contract Go.Proofs.Try.prog 41 [pools 2 (P2 (pl 8) (pl 5)), I 0, I 300] (.tup [I 0, I 12]) := by
  have := c41 2 (P2 (pl 8) (pl 5)) 0 300 (by decide) (hn2 _ _ (by decide) (by decide))
  rwa [show whenV 2 (P2 (pl 8) (pl 5)) 0 300 = 0 by decide, show whenE 2 (P2 (pl 8) (pl 5)) 0 300 = 12 by decide] at this
theorem w41b : Contract Go.Proofs.Try.prog 41 [pools 2 (P2 (pl 5) (pl 8)), I 0, I 10] (.tup [I 0, I 16]) := by
  have := c41 2 (P2 (pl 5) (pl 8)) 0 10 (by decide) (hn2 _ _ (by decide) (by decide))
  rwa [show whenV 2 (P2 (pl 5) (pl 8)) 0 10 = 0 by decide, show whenE 2 (P2 (pl 5) (pl 8)) 0 10 = 16 by decide] at this
theorem w36 : Contract Go.Proofs.Try.prog 36 [ints 2 (fun j => (pl 8).div j), ints 2 (l2 210 110)] (B true) := by
  have := c36 2 (fun j => (pl 8).div j) 2 (l2 210 110) (by decide)
  rwa [show decide (sameL 2 (fun j => (pl 8).div j) 2 (l2 210 110)) = true by decide] at this
theorem w31 : Contract Go.Proofs.Try.prog 31 [(pl 5).sv, ints 2 ((pl 5).wt 0 300), I 0, I 300] (I (-100)) := by
  have := c31 (pl 5) 2 ((pl 5).wt 0 300) 0 300
  obtain ⟨h1, h2⟩ := wt_leftV (pl 5) 0 300 (by decide)
  have e : (pl 5).leftL 2 ((pl 5).wt 0 300) 0 300 = -100 := by
    have h1' : (pl 5).leftE 2 ((pl 5).wt 0 300) 0 300 = 0 := h1
    have h2' : (pl 5).leftV 2 ((pl 5).wt 0 300) 0 300 = (pl 5).sLo 0 300 := h2
    unfold Pool.leftL; rw [if_pos h1', h2']; decide
  rwa [e] at this
theorem w40 : Contract Go.Proofs.Try.prog 40 [(pl 5).sv, I 0, I 290, ints 2 ((pl 5).wt 0 290)] (I 0) := by
  have := c40 (pl 5) 2 ((pl 5).wt 0 290) 0 290
  have e : (pl 5).chE 2 ((pl 5).wt 0 290) 0 290 = 0 := wt_chE (pl 5) 0 290 (by decide) (by decide)
  rwa [e] at this
theorem svN_sub (p : Pool) (hp : List (Nat × Blk)) : SubL hp [p.sv] [p.svN] := by
  (simp -dsimp only [↓RP, RQ0, RQ1, RQ2, RQ3, implies_true, forall_const, Nat.reduceMul, reduceIte, reduceCtorEq, Nat.reduceAdd, Nat.reduceEqDiff, Nat.reduceLT, Nat.reduceLeDiff, Pool.sv, Pool.svN, rngs, I]); all_goals simp
theorem ty52' : tyOf Go.Proofs.Try.prog 52 = some ⟨false, 1, some [.slice none 0 0], .slice 24 5⟩ := by kernel_rfl
theorem eq35w : eqInfo Go.Proofs.Try.prog 35 = some [.i .i64, .i .i64] := by kernel_rfl
theorem pools2_sub {hp : List (Nat × Blk)} (p q : Pool) (i j : Nat) (hi : i < 2) (hj : j < 5) : Go.Sx.Sub hp (pc (P2 p q i) j) ([.arr true false p.n 2 (fun i j => .val (.int .i64 (if j = 0 then p.lo i else p.hi i))), .val (.int .i64 p.per), .val (.int .i64 p.pence), .val (.int .i64 p.keep), .val (.int .i64 p.step), .arr true false q.n 2 (fun i j => .val (.int .i64 (if j = 0 then q.lo i else q.hi i))), .val (.int .i64 q.per), .val (.int .i64 q.pence), .val (.int .i64 q.keep), .val (.int .i64 q.step)].getD (i * 5 + j) .top) := by
  have hi' : i = 0 ∨ i = 1 := by omega
  have hj' : j = 0 ∨ j = 1 ∨ j = 2 ∨ j = 3 ∨ j = 4 := by omega
  rcases hi' with rfl | rfl <;> rcases hj' with rfl | rfl | rfl | rfl | rfl <;> simp [P2, pc, Go.Sx.Sub]
theorem c19 : Contract Go.Proofs.Try.prog 19 [] (B true) := by
  refine contract_of Go.Proofs.Try.func19 rfl (by kernel_rfl) follows (by kernel_rfl) _ _ (by rw [Go.Proofs.Try.ntmps19]; simp) (by simp [OldL]) ?_
  unfold B
  (repeat' (first | with_reducible refine splitVC_d (fun _ => ?_) (fun _ => ?_) | ((with_reducible refine And.intro ?_ ?_); focus (first | trivial | (simp only [InK]; omega) | omega | (simp only [InK, ne_eq, and_true, true_and]; omega))) | simp -dsimp only [↓RP, RQ0, RQ1, RQ2, RQ3, implies_true, forall_const, Nat.reduceMul, reduceIte, reduceCtorEq, Nat.reduceAdd, Nat.reduceEqDiff, Nat.reduceLT, Nat.reduceLeDiff, Int.reduceEq, decide_true, decide_false, Bool.not_true, Bool.not_false, ty2, ty3, ty4, ty22, ty24, ty25, ty28, ty35, ty52, by2, Go.Proofs.Try.results19]))
  refine callVC (c52 5) (by (simp -dsimp only [↓RP, RQ0, RQ1, RQ2, RQ3, implies_true, forall_const, Nat.reduceMul, reduceIte, reduceCtorEq, Nat.reduceAdd, Nat.reduceEqDiff, Nat.reduceLT, Nat.reduceLeDiff, I])) (by (simp -dsimp only [↓RP, RQ0, RQ1, RQ2, RQ3, implies_true, forall_const, Nat.reduceMul, reduceIte, reduceCtorEq, Nat.reduceAdd, Nat.reduceEqDiff, Nat.reduceLT, Nat.reduceLeDiff, Pool.svN, I]); all_goals simp) ?_
  (repeat' (first | with_reducible refine splitVC_d (fun _ => ?_) (fun _ => ?_) | ((with_reducible refine And.intro ?_ ?_); focus (first | trivial | (simp only [InK]; omega) | omega | (simp only [InK, ne_eq, and_true, true_and]; omega))) | simp -dsimp only [↓RP, RQ0, RQ1, RQ2, RQ3, implies_true, forall_const, Nat.reduceMul, reduceIte, reduceCtorEq, Nat.reduceAdd, Nat.reduceEqDiff, Nat.reduceLT, Nat.reduceLeDiff, Pool.svN, I, Int.reduceEq, decide_true, decide_false, Bool.not_true, Bool.not_false, ty2, ty3, ty4, ty22, ty24, ty25, ty28, ty35, ty52, by2, Go.Proofs.Try.results19]))
  refine callVC c53 (by (simp -dsimp only [↓RP, RQ0, RQ1, RQ2, RQ3, implies_true, forall_const, Nat.reduceMul, reduceIte, reduceCtorEq, Nat.reduceAdd, Nat.reduceEqDiff, Nat.reduceLT, Nat.reduceLeDiff, I])) (by (simp -dsimp only [↓RP, RQ0, RQ1, RQ2, RQ3, implies_true, forall_const, Nat.reduceMul, reduceIte, reduceCtorEq, Nat.reduceAdd, Nat.reduceEqDiff, Nat.reduceLT, Nat.reduceLeDiff, Pool.svN, I]); all_goals simp) ?_
  (repeat' (first | with_reducible refine splitVC_d (fun _ => ?_) (fun _ => ?_) | ((with_reducible refine And.intro ?_ ?_); focus (first | trivial | (simp only [InK]; omega) | omega | (simp only [InK, ne_eq, and_true, true_and]; omega))) | simp -dsimp only [↓RP, RQ0, RQ1, RQ2, RQ3, implies_true, forall_const, Nat.reduceMul, reduceIte, reduceCtorEq, Nat.reduceAdd, Nat.reduceEqDiff, Nat.reduceLT, Nat.reduceLeDiff, Pool.svN, I, Int.reduceEq, decide_true, decide_false, Bool.not_true, Bool.not_false, ty2, ty3, ty4, ty22, ty24, ty25, ty28, ty35, ty52, by2, Go.Proofs.Try.results19]))
  refine callVC (c52 8) (by (simp -dsimp only [↓RP, RQ0, RQ1, RQ2, RQ3, implies_true, forall_const, Nat.reduceMul, reduceIte, reduceCtorEq, Nat.reduceAdd, Nat.reduceEqDiff, Nat.reduceLT, Nat.reduceLeDiff, I])) (by (simp -dsimp only [↓RP, RQ0, RQ1, RQ2, RQ3, implies_true, forall_const, Nat.reduceMul, reduceIte, reduceCtorEq, Nat.reduceAdd, Nat.reduceEqDiff, Nat.reduceLT, Nat.reduceLeDiff, Pool.svN, I]); all_goals simp) ?_
  (repeat' (first | with_reducible refine splitVC_d (fun _ => ?_) (fun _ => ?_) | ((with_reducible refine And.intro ?_ ?_); focus (first | trivial | (simp only [InK]; omega) | omega | (simp only [InK, ne_eq, and_true, true_and]; omega))) | simp -dsimp only [↓RP, RQ0, RQ1, RQ2, RQ3, implies_true, forall_const, Nat.reduceMul, reduceIte, reduceCtorEq, Nat.reduceAdd, Nat.reduceEqDiff, Nat.reduceLT, Nat.reduceLeDiff, Pool.svN, I, Int.reduceEq, decide_true, decide_false, Bool.not_true, Bool.not_false, ty2, ty3, ty4, ty22, ty24, ty25, ty28, ty35, ty52, by2, Go.Proofs.Try.results19]))
  refine callVC w20 (by (simp -dsimp only [↓RP, RQ0, RQ1, RQ2, RQ3, implies_true, forall_const, Nat.reduceMul, reduceIte, reduceCtorEq, Nat.reduceAdd, Nat.reduceEqDiff, Nat.reduceLT, Nat.reduceLeDiff, Pool.sv, rngs, I, ints]); all_goals (try simp); all_goals exact lit2' _ _) (by (simp -dsimp only [↓RP, RQ0, RQ1, RQ2, RQ3, implies_true, forall_const, Nat.reduceMul, reduceIte, reduceCtorEq, Nat.reduceAdd, Nat.reduceEqDiff, Nat.reduceLT, Nat.reduceLeDiff, I, rg])) ?_
  (repeat' (first | with_reducible refine splitVC_d (fun _ => ?_) (fun _ => ?_) | ((with_reducible refine And.intro ?_ ?_); focus (first | trivial | (simp only [InK]; omega) | omega | (simp only [InK, ne_eq, and_true, true_and]; omega))) | simp -dsimp only [↓RP, RQ0, RQ1, RQ2, RQ3, implies_true, forall_const, Nat.reduceMul, reduceIte, reduceCtorEq, Nat.reduceAdd, Nat.reduceEqDiff, Nat.reduceLT, Nat.reduceLeDiff, I, rg, Nat.zero_add,  Int.reduceEq, decide_true, decide_false, Bool.not_true, Bool.not_false, ty2, ty3, ty4, ty22, ty24, ty25, ty28, ty35, ty52, by2, Go.Proofs.Try.results19]))
  refine callVC w22 (by (simp -dsimp only [↓RP, RQ0, RQ1, RQ2, RQ3, implies_true, forall_const, Nat.reduceMul, reduceIte, reduceCtorEq, Nat.reduceAdd, Nat.reduceEqDiff, Nat.reduceLT, Nat.reduceLeDiff, Pool.sv, rngs, I, ints]); all_goals (try simp); all_goals exact lit2' _ _) (by (simp -dsimp only [↓RP, RQ0, RQ1, RQ2, RQ3, implies_true, forall_const, Nat.reduceMul, reduceIte, reduceCtorEq, Nat.reduceAdd, Nat.reduceEqDiff, Nat.reduceLT, Nat.reduceLeDiff, I, rg])) ?_
  (repeat' (first | with_reducible refine splitVC_d (fun _ => ?_) (fun _ => ?_) | ((with_reducible refine And.intro ?_ ?_); focus (first | trivial | (simp only [InK]; omega) | omega | (simp only [InK, ne_eq, and_true, true_and]; omega))) | simp -dsimp only [↓RP, RQ0, RQ1, RQ2, RQ3, implies_true, forall_const, Nat.reduceMul, reduceIte, reduceCtorEq, Nat.reduceAdd, Nat.reduceEqDiff, Nat.reduceLT, Nat.reduceLeDiff, I, rg, Nat.zero_add,  Int.reduceEq, decide_true, decide_false, Bool.not_true, Bool.not_false, ty2, ty3, ty4, ty22, ty24, ty25, ty28, ty35, ty52, by2, Go.Proofs.Try.results19]))
  refine callVC w32 (by (simp -dsimp only [↓RP, RQ0, RQ1, RQ2, RQ3, implies_true, forall_const, Nat.reduceMul, reduceIte, reduceCtorEq, Nat.reduceAdd, Nat.reduceEqDiff, Nat.reduceLT, Nat.reduceLeDiff, Pool.sv, rngs, I, ints]); all_goals (try simp)) (by (simp -dsimp only [↓RP, RQ0, RQ1, RQ2, RQ3, implies_true, forall_const, Nat.reduceMul, reduceIte, reduceCtorEq, Nat.reduceAdd, Nat.reduceEqDiff, Nat.reduceLT, Nat.reduceLeDiff, I, rg])) ?_
  (repeat' (first | with_reducible refine splitVC_d (fun _ => ?_) (fun _ => ?_) | ((with_reducible refine And.intro ?_ ?_); focus (first | trivial | (simp only [InK]; omega) | omega | (simp only [InK, ne_eq, and_true, true_and]; omega))) | simp -dsimp only [↓RP, RQ0, RQ1, RQ2, RQ3, implies_true, forall_const, Nat.reduceMul, reduceIte, reduceCtorEq, Nat.reduceAdd, Nat.reduceEqDiff, Nat.reduceLT, Nat.reduceLeDiff, I, rg, Nat.zero_add,  Int.reduceEq, decide_true, decide_false, Bool.not_true, Bool.not_false, ty2, ty3, ty4, ty22, ty24, ty25, ty28, ty35, ty52, by2, Go.Proofs.Try.results19]))
  refine callN w34 (by (simp -dsimp only [↓RP, RQ0, RQ1, RQ2, RQ3, implies_true, forall_const, Nat.reduceMul, reduceIte, reduceCtorEq, Nat.reduceAdd, Nat.reduceEqDiff, Nat.reduceLT, Nat.reduceLeDiff, Pool.sv, rngs, I, ints]); all_goals (try simp)) (by simp [FreshO, FreshOL, I]) (by simp [FreshB, Fresh, I]) ?_
  (repeat' (first | with_reducible refine splitVC_d (fun _ => ?_) (fun _ => ?_) | ((with_reducible refine And.intro ?_ ?_); focus (first | trivial | (simp only [InK]; omega) | omega | (simp only [InK, ne_eq, and_true, true_and]; omega))) | simp -dsimp only [↓RP, RQ0, RQ1, RQ2, RQ3, implies_true, forall_const, Nat.reduceMul, reduceIte, reduceCtorEq, Nat.reduceAdd, Nat.reduceEqDiff, Nat.reduceLT, Nat.reduceLeDiff, I, Int.reduceEq, decide_true, decide_false, Bool.not_true, Bool.not_false, ty2, ty3, ty4, ty22, ty24, ty25, ty28, ty35, ty52, by2, Go.Proofs.Try.results19]))
  refine callVC w26 (by (simp -dsimp only [↓RP, RQ0, RQ1, RQ2, RQ3, implies_true, forall_const, Nat.reduceMul, reduceIte, reduceCtorEq, Nat.reduceAdd, Nat.reduceEqDiff, Nat.reduceLT, Nat.reduceLeDiff, Pool.sv, rngs, I, ints]); all_goals (try simp)) (by (simp -dsimp only [↓RP, RQ0, RQ1, RQ2, RQ3, implies_true, forall_const, Nat.reduceMul, reduceIte, reduceCtorEq, Nat.reduceAdd, Nat.reduceEqDiff, Nat.reduceLT, Nat.reduceLeDiff, I, rg])) ?_
  (repeat' (first | with_reducible refine splitVC_d (fun _ => ?_) (fun _ => ?_) | ((with_reducible refine And.intro ?_ ?_); focus (first | trivial | (simp only [InK]; omega) | omega | (simp only [InK, ne_eq, and_true, true_and]; omega))) | simp -dsimp only [↓RP, RQ0, RQ1, RQ2, RQ3, implies_true, forall_const, Nat.reduceMul, reduceIte, reduceCtorEq, Nat.reduceAdd, Nat.reduceEqDiff, Nat.reduceLT, Nat.reduceLeDiff, I, rg, Nat.zero_add,  Int.reduceEq, decide_true, decide_false, Bool.not_true, Bool.not_false, ty2, ty3, ty4, ty22, ty24, ty25, ty28, ty35, ty52, by2, Go.Proofs.Try.results19]))
  refine callN w30 (by (simp -dsimp only [↓RP, RQ0, RQ1, RQ2, RQ3, implies_true, forall_const, Nat.reduceMul, reduceIte, reduceCtorEq, Nat.reduceAdd, Nat.reduceEqDiff, Nat.reduceLT, Nat.reduceLeDiff, Pool.sv, rngs, I, ints]); all_goals (try simp)) (by simp [FreshO, FreshOL, I]) (by simp [FreshB, Fresh, I]) ?_
  (repeat' (first | with_reducible refine splitVC_d (fun _ => ?_) (fun _ => ?_) | ((with_reducible refine And.intro ?_ ?_); focus (first | trivial | (simp only [InK]; omega) | omega | (simp only [InK, ne_eq, and_true, true_and]; omega))) | simp -dsimp only [↓RP, RQ0, RQ1, RQ2, RQ3, implies_true, forall_const, Nat.reduceMul, reduceIte, reduceCtorEq, Nat.reduceAdd, Nat.reduceEqDiff, Nat.reduceLT, Nat.reduceLeDiff, I, Int.reduceEq, decide_true, decide_false, Bool.not_true, Bool.not_false, ty2, ty3, ty4, ty22, ty24, ty25, ty28, ty35, ty52, by2, Go.Proofs.Try.results19]))
  refine callVC w39 (by (simp -dsimp only [↓RP, RQ0, RQ1, RQ2, RQ3, implies_true, forall_const, Nat.reduceMul, reduceIte, reduceCtorEq, Nat.reduceAdd, Nat.reduceEqDiff, Nat.reduceLT, Nat.reduceLeDiff, Pool.sv, rngs, I, ints]); all_goals (try simp); all_goals exact lit2' _ _) (by (simp -dsimp only [↓RP, RQ0, RQ1, RQ2, RQ3, implies_true, forall_const, Nat.reduceMul, reduceIte, reduceCtorEq, Nat.reduceAdd, Nat.reduceEqDiff, Nat.reduceLT, Nat.reduceLeDiff, I, rg])) ?_
  (repeat' (first | with_reducible refine splitVC_d (fun _ => ?_) (fun _ => ?_) | ((with_reducible refine And.intro ?_ ?_); focus (first | trivial | (simp only [InK]; omega) | omega | (simp only [InK, ne_eq, and_true, true_and]; omega))) | simp -dsimp only [↓RP, RQ0, RQ1, RQ2, RQ3, implies_true, forall_const, Nat.reduceMul, reduceIte, reduceCtorEq, Nat.reduceAdd, Nat.reduceEqDiff, Nat.reduceLT, Nat.reduceLeDiff, I, rg, Nat.zero_add,  Int.reduceEq, decide_true, decide_false, Bool.not_true, Bool.not_false, ty2, ty3, ty4, ty22, ty24, ty25, ty28, ty35, ty52, by2, Go.Proofs.Try.results19]))
  refine callVC w39' (by (simp -dsimp only [↓RP, RQ0, RQ1, RQ2, RQ3, implies_true, forall_const, Nat.reduceMul, reduceIte, reduceCtorEq, Nat.reduceAdd, Nat.reduceEqDiff, Nat.reduceLT, Nat.reduceLeDiff, Pool.sv, rngs, I, ints]); all_goals (try simp); all_goals exact lit2' _ _) (by (simp -dsimp only [↓RP, RQ0, RQ1, RQ2, RQ3, implies_true, forall_const, Nat.reduceMul, reduceIte, reduceCtorEq, Nat.reduceAdd, Nat.reduceEqDiff, Nat.reduceLT, Nat.reduceLeDiff, I, rg])) ?_
  (repeat' (first | with_reducible refine splitVC_d (fun _ => ?_) (fun _ => ?_) | ((with_reducible refine And.intro ?_ ?_); focus (first | trivial | (simp only [InK]; omega) | omega | (simp only [InK, ne_eq, and_true, true_and]; omega))) | simp -dsimp only [↓RP, RQ0, RQ1, RQ2, RQ3, implies_true, forall_const, Nat.reduceMul, reduceIte, reduceCtorEq, Nat.reduceAdd, Nat.reduceEqDiff, Nat.reduceLT, Nat.reduceLeDiff, I, rg, Nat.zero_add,  Int.reduceEq, decide_true, decide_false, Bool.not_true, Bool.not_false, ty2, ty3, ty4, ty22, ty24, ty25, ty28, ty35, ty52, by2, Go.Proofs.Try.results19]))
  refine callN w37 (by (simp -dsimp only [↓RP, RQ0, RQ1, RQ2, RQ3, implies_true, forall_const, Nat.reduceMul, reduceIte, reduceCtorEq, Nat.reduceAdd, Nat.reduceEqDiff, Nat.reduceLT, Nat.reduceLeDiff, Pool.sv, rngs, I, ints]); all_goals (try simp)) (by simp [FreshO, FreshOL, I]) (by simp [FreshB, Fresh, I]) ?_
  (repeat' (first | with_reducible refine splitVC_d (fun _ => ?_) (fun _ => ?_) | ((with_reducible refine And.intro ?_ ?_); focus (first | trivial | (simp only [InK]; omega) | omega | (simp only [InK, ne_eq, and_true, true_and]; omega))) | simp -dsimp only [↓RP, RQ0, RQ1, RQ2, RQ3, implies_true, forall_const, Nat.reduceMul, reduceIte, reduceCtorEq, Nat.reduceAdd, Nat.reduceEqDiff, Nat.reduceLT, Nat.reduceLeDiff, I, Int.reduceEq, decide_true, decide_false, Bool.not_true, Bool.not_false, ty2, ty3, ty4, ty22, ty24, ty25, ty28, ty35, ty52, by2, Go.Proofs.Try.results19]))
  refine callVC w37' (by (simp -dsimp only [↓RP, RQ0, RQ1, RQ2, RQ3, implies_true, forall_const, Nat.reduceMul, reduceIte, reduceCtorEq, Nat.reduceAdd, Nat.reduceEqDiff, Nat.reduceLT, Nat.reduceLeDiff, Pool.sv, rngs, I, ints]); all_goals (try simp)) (by (simp -dsimp only [↓RP, RQ0, RQ1, RQ2, RQ3, implies_true, forall_const, Nat.reduceMul, reduceIte, reduceCtorEq, Nat.reduceAdd, Nat.reduceEqDiff, Nat.reduceLT, Nat.reduceLeDiff, I, rg])) ?_
  (repeat' (first | with_reducible refine splitVC_d (fun _ => ?_) (fun _ => ?_) | ((with_reducible refine And.intro ?_ ?_); focus (first | trivial | (simp only [InK]; omega) | omega | (simp only [InK, ne_eq, and_true, true_and]; omega))) | simp -dsimp only [↓RP, RQ0, RQ1, RQ2, RQ3, implies_true, forall_const, Nat.reduceMul, reduceIte, reduceCtorEq, Nat.reduceAdd, Nat.reduceEqDiff, Nat.reduceLT, Nat.reduceLeDiff, I, rg, Nat.zero_add,  Int.reduceEq, decide_true, decide_false, Bool.not_true, Bool.not_false, ty2, ty3, ty4, ty22, ty24, ty25, ty28, ty35, ty52, by2, Go.Proofs.Try.results19]))
  refine callVC w28 (by (simp -dsimp only [↓RP, RQ0, RQ1, RQ2, RQ3, implies_true, forall_const, Nat.reduceMul, reduceIte, reduceCtorEq, Nat.reduceAdd, Nat.reduceEqDiff, Nat.reduceLT, Nat.reduceLeDiff, Pool.sv, rngs, I, ints]); all_goals (try simp)) (by (simp -dsimp only [↓RP, RQ0, RQ1, RQ2, RQ3, implies_true, forall_const, Nat.reduceMul, reduceIte, reduceCtorEq, Nat.reduceAdd, Nat.reduceEqDiff, Nat.reduceLT, Nat.reduceLeDiff, I, rg])) ?_
  (repeat' (first | with_reducible refine splitVC_d (fun _ => ?_) (fun _ => ?_) | ((with_reducible refine And.intro ?_ ?_); focus (first | trivial | (simp only [InK]; omega) | omega | (simp only [InK, ne_eq, and_true, true_and]; omega))) | simp -dsimp only [↓RP, RQ0, RQ1, RQ2, RQ3, implies_true, forall_const, Nat.reduceMul, reduceIte, reduceCtorEq, Nat.reduceAdd, Nat.reduceEqDiff, Nat.reduceLT, Nat.reduceLeDiff, I, rg, Nat.zero_add,  Int.reduceEq, decide_true, decide_false, Bool.not_true, Bool.not_false, ty2, ty3, ty4, ty22, ty24, ty25, ty28, ty35, ty52, by2, Go.Proofs.Try.results19]))
  refine callVC w41 (by (simp -dsimp only [↓RP, RQ0, RQ1, RQ2, RQ3, implies_true, forall_const, Nat.reduceMul, reduceIte, reduceCtorEq, Nat.reduceAdd, Nat.reduceEqDiff, Nat.reduceLT, Nat.reduceLeDiff, I, pools]); exact fun i j hi hj => pools2_sub _ _ i j hi hj) (by (simp -dsimp only [↓RP, RQ0, RQ1, RQ2, RQ3, implies_true, forall_const, Nat.reduceMul, reduceIte, reduceCtorEq, Nat.reduceAdd, Nat.reduceEqDiff, Nat.reduceLT, Nat.reduceLeDiff, I, rg])) ?_
  (repeat' (first | with_reducible refine splitVC_d (fun _ => ?_) (fun _ => ?_) | ((with_reducible refine And.intro ?_ ?_); focus (first | trivial | (simp only [InK]; omega) | omega | (simp only [InK, ne_eq, and_true, true_and]; omega))) | simp -dsimp only [↓RP, RQ0, RQ1, RQ2, RQ3, implies_true, forall_const, Nat.reduceMul, reduceIte, reduceCtorEq, Nat.reduceAdd, Nat.reduceEqDiff, Nat.reduceLT, Nat.reduceLeDiff, I, rg, Nat.zero_add,  Int.reduceEq, decide_true, decide_false, Bool.not_true, Bool.not_false, ty2, ty3, ty4, ty22, ty24, ty25, ty28, ty35, ty52, by2, Go.Proofs.Try.results19]))
  refine callVC w41' (by (simp -dsimp only [↓RP, RQ0, RQ1, RQ2, RQ3, implies_true, forall_const, Nat.reduceMul, reduceIte, reduceCtorEq, Nat.reduceAdd, Nat.reduceEqDiff, Nat.reduceLT, Nat.reduceLeDiff, I, pools]); exact fun i j hi hj => pools2_sub _ _ i j hi hj) (by (simp -dsimp only [↓RP, RQ0, RQ1, RQ2, RQ3, implies_true, forall_const, Nat.reduceMul, reduceIte, reduceCtorEq, Nat.reduceAdd, Nat.reduceEqDiff, Nat.reduceLT, Nat.reduceLeDiff, I, rg])) ?_
  (repeat' (first | with_reducible refine splitVC_d (fun _ => ?_) (fun _ => ?_) | ((with_reducible refine And.intro ?_ ?_); focus (first | trivial | (simp only [InK]; omega) | omega | (simp only [InK, ne_eq, and_true, true_and]; omega))) | simp -dsimp only [↓RP, RQ0, RQ1, RQ2, RQ3, implies_true, forall_const, Nat.reduceMul, reduceIte, reduceCtorEq, Nat.reduceAdd, Nat.reduceEqDiff, Nat.reduceLT, Nat.reduceLeDiff, I, rg, Nat.zero_add,  Int.reduceEq, decide_true, decide_false, Bool.not_true, Bool.not_false, ty2, ty3, ty4, ty22, ty24, ty25, ty28, ty35, ty52, by2, Go.Proofs.Try.results19]))
  refine callVC w41b (by (simp -dsimp only [↓RP, RQ0, RQ1, RQ2, RQ3, implies_true, forall_const, Nat.reduceMul, reduceIte, reduceCtorEq, Nat.reduceAdd, Nat.reduceEqDiff, Nat.reduceLT, Nat.reduceLeDiff, I, pools]); exact fun i j hi hj => pools2_sub _ _ i j hi hj) (by (simp -dsimp only [↓RP, RQ0, RQ1, RQ2, RQ3, implies_true, forall_const, Nat.reduceMul, reduceIte, reduceCtorEq, Nat.reduceAdd, Nat.reduceEqDiff, Nat.reduceLT, Nat.reduceLeDiff, I, rg])) ?_
  (repeat' (first | with_reducible refine splitVC_d (fun _ => ?_) (fun _ => ?_) | ((with_reducible refine And.intro ?_ ?_); focus (first | trivial | (simp only [InK]; omega) | omega | (simp only [InK, ne_eq, and_true, true_and]; omega))) | simp -dsimp (config := { maxSteps := 2000000 }) only [↓RP, RQ0, RQ1, RQ2, RQ3, implies_true, forall_const, Nat.reduceMul, reduceIte, reduceCtorEq, Nat.reduceAdd, Nat.reduceEqDiff, Nat.reduceLT, Nat.reduceLeDiff, I, rg, Nat.zero_add,  Int.reduceEq, decide_true, decide_false, Bool.not_true, Bool.not_false, ty2, ty3, ty4, ty22, ty24, ty25, ty28, ty35, ty52, by2, Go.Proofs.Try.results19]))
  refine callVC w36 (by (simp -dsimp only [↓RP, RQ0, RQ1, RQ2, RQ3, implies_true, forall_const, Nat.reduceMul, reduceIte, reduceCtorEq, Nat.reduceAdd, Nat.reduceEqDiff, Nat.reduceLT, Nat.reduceLeDiff, Pool.sv, rngs, I, ints]); all_goals (try simp); all_goals exact lit2' _ _) (by (simp -dsimp only [↓RP, RQ0, RQ1, RQ2, RQ3, implies_true, forall_const, Nat.reduceMul, reduceIte, reduceCtorEq, Nat.reduceAdd, Nat.reduceEqDiff, Nat.reduceLT, Nat.reduceLeDiff, B])) ?_
  (repeat' (first | with_reducible refine splitVC_d (fun _ => ?_) (fun _ => ?_) | ((with_reducible refine And.intro ?_ ?_); focus (first | trivial | (simp only [InK]; omega) | omega | (simp only [InK, ne_eq, and_true, true_and]; omega))) | simp -dsimp (config := { maxSteps := 2000000 }) only [↓RP, RQ0, RQ1, RQ2, RQ3, implies_true, forall_const, Nat.reduceMul, reduceIte, reduceCtorEq, Nat.reduceAdd, Nat.reduceEqDiff, Nat.reduceLT, Nat.reduceLeDiff, B, I, rg, Nat.zero_add,  Int.reduceEq, decide_true, decide_false, Bool.not_true, Bool.not_false, ty2, ty3, ty4, ty22, ty24, ty25, ty28, ty35, ty52, by2, Go.Proofs.Try.results19]))
  refine callVC (c49 0 560) (by (simp -dsimp only [↓RP, RQ0, RQ1, RQ2, RQ3, implies_true, forall_const, Nat.reduceMul, reduceIte, reduceCtorEq, Nat.reduceAdd, Nat.reduceEqDiff, Nat.reduceLT, Nat.reduceLeDiff, I])) (by (simp -dsimp only [↓RP, RQ0, RQ1, RQ2, RQ3, implies_true, forall_const, Nat.reduceMul, reduceIte, reduceCtorEq, Nat.reduceAdd, Nat.reduceEqDiff, Nat.reduceLT, Nat.reduceLeDiff, I, rg])) ?_
  (repeat' (first | with_reducible refine splitVC_d (fun _ => ?_) (fun _ => ?_) | ((with_reducible refine And.intro ?_ ?_); focus (first | trivial | (simp only [InK]; omega) | omega | (simp only [InK, ne_eq, and_true, true_and]; omega))) | simp -dsimp (config := { maxSteps := 2000000 }) only [↓RP, RQ0, RQ1, RQ2, RQ3, implies_true, forall_const, Nat.reduceMul, reduceIte, reduceCtorEq, Nat.reduceAdd, Nat.reduceEqDiff, Nat.reduceLT, Nat.reduceLeDiff, I, rg, Nat.zero_add,  Int.reduceEq, decide_true, decide_false, Bool.not_true, Bool.not_false, eq35w, ty2, ty3, ty4, ty22, ty24, ty25, ty28, ty35, ty52, by2, Go.Proofs.Try.results19]))
  refine callVC w31 (by (simp -dsimp only [↓RP, RQ0, RQ1, RQ2, RQ3, implies_true, forall_const, Nat.reduceMul, reduceIte, reduceCtorEq, Nat.reduceAdd, Nat.reduceEqDiff, Nat.reduceLT, Nat.reduceLeDiff, Pool.sv, rngs, I, ints]); all_goals (try simp)) (by (simp -dsimp only [↓RP, RQ0, RQ1, RQ2, RQ3, implies_true, forall_const, Nat.reduceMul, reduceIte, reduceCtorEq, Nat.reduceAdd, Nat.reduceEqDiff, Nat.reduceLT, Nat.reduceLeDiff, I, rg])) ?_
  (repeat' (first | with_reducible refine splitVC_d (fun _ => ?_) (fun _ => ?_) | ((with_reducible refine And.intro ?_ ?_); focus (first | trivial | (simp only [InK]; omega) | omega | (simp only [InK, ne_eq, and_true, true_and]; omega))) | simp -dsimp (config := { maxSteps := 2000000 }) only [↓RP, RQ0, RQ1, RQ2, RQ3, implies_true, forall_const, Nat.reduceMul, reduceIte, reduceCtorEq, Nat.reduceAdd, Nat.reduceEqDiff, Nat.reduceLT, Nat.reduceLeDiff, I, rg, Nat.zero_add,  Int.reduceEq, decide_true, decide_false, Bool.not_true, Bool.not_false, ty2, ty3, ty4, ty22, ty24, ty25, ty28, ty35, ty52, by2, Go.Proofs.Try.results19]))
  refine callVC w40 (by (simp -dsimp only [↓RP, RQ0, RQ1, RQ2, RQ3, implies_true, forall_const, Nat.reduceMul, reduceIte, reduceCtorEq, Nat.reduceAdd, Nat.reduceEqDiff, Nat.reduceLT, Nat.reduceLeDiff, Pool.sv, rngs, I, ints]); all_goals (try simp)) (by (simp -dsimp only [↓RP, RQ0, RQ1, RQ2, RQ3, implies_true, forall_const, Nat.reduceMul, reduceIte, reduceCtorEq, Nat.reduceAdd, Nat.reduceEqDiff, Nat.reduceLT, Nat.reduceLeDiff, I, rg])) ?_
  (repeat' (first | with_reducible refine splitVC_d (fun _ => ?_) (fun _ => ?_) | ((with_reducible refine And.intro ?_ ?_); focus (first | trivial | (simp only [InK]; omega) | omega | (simp only [InK, ne_eq, and_true, true_and]; omega))) | simp -dsimp (config := { maxSteps := 2000000 }) only [↓RP, RQ0, RQ1, RQ2, RQ3, implies_true, forall_const, Nat.reduceMul, reduceIte, reduceCtorEq, Nat.reduceAdd, Nat.reduceEqDiff, Nat.reduceLT, Nat.reduceLeDiff, I, rg, Nat.zero_add,  Int.reduceEq, decide_true, decide_false, Bool.not_true, Bool.not_false, ty2, ty3, ty4, ty22, ty24, ty25, ty28, ty35, ty52, by2, Go.Proofs.Try.results19]))
  all_goals trace_state
end Go.Po
end
