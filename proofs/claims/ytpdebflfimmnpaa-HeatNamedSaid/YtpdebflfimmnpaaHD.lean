/- A part of the proof. -/
import Derived.Test.YtpdebflfimmnpaaHC
section
set_option linter.unusedSimpArgs false
set_option linter.unusedVariables false
set_option linter.defProp false
set_option maxRecDepth 100000
set_option maxHeartbeats 16000000
namespace Go.He
open Go.Proofs
open Go.Sx
def ckF (N : Int) (m : Nat) (w : Nat → Wd) (l : Nat) (f : Nat → Int) : Int := if ckR N m w ≠ 0 then ckR N m w else if (l : Int) ≠ N then 15 else if ¬ Fin f l then 16 else if ¬ agr w m f then 22 else 0
def fz (f : Nat → Int) (l i : Nat) : Int := if i < l then f i else 0
theorem fz_fin (f : Nat → Int) (l : Nat) : (l ≤ 5) → decide (eq5 (fz f l) (rkU (fz f l) l l)) = decide (Fin f l) := fun h5 => by
 rw [Bool.eq_iff_iff, decide_eq_true_eq, decide_eq_true_eq]
 have e : ∀ i, i < l → rk (fz f l) l i = rk f l i := fun i hi => rkN_congr fun x hx => by unfold fz; rw [if_pos hx, if_pos hi]
 unfold eq5 Fin rkU
 constructor
 ·intro h i hi
  have := h i (by omega)
  rw [if_pos hi, e i hi] at this
  unfold fz at this
  rwa [if_pos hi] at this
 ·intro h i hi
  by_cases c : i < l
  ·rw [if_pos c, e i c]; unfold fz; rw [if_pos c]; exact h i c
  ·rw [if_neg c]; unfold fz; rw [if_neg c]
theorem fz_agr {f : Nat → Int} {l m : Nat} {w : Nat → Wd} (hw : Fit w m l) : agr w m (fz f l) ↔ agr w m f := by
 have e : ∀ i, i < m → (says (w i) (fun x => fz f l x.toNat) ↔ says (w i) (fun x => f x.toNat)) := fun i hi => by
  have a := hw.a i hi
  have b := hw.b i hi
  refine says_congr ?_ ?_ <;> (show fz f l _ = f _; unfold fz; rw [if_pos (by omega)])
 exact ⟨fun h i hi => (e i hi).1 (h i hi), fun h i hi => (e i hi).2 (h i hi)⟩
theorem rep5 (x : SV) : List.replicate 5 x = [x, x, x, x, x] := rfl
theorem copy_pl (f : Nat → Int) (l : Nat) (h5 : l ≤ 5) : List.map (fun i => SV.val (.int .i64 (f i))) (List.range (min l 5)) ++ List.drop (min l 5) [SV.val (.int .i64 0), SV.val (.int .i64 0), SV.val (.int .i64 0), SV.val (.int .i64 0), SV.val (.int .i64 0)] = pl (fz f l) := by
 have : l = 0 ∨ l = 1 ∨ l = 2 ∨ l = 3 ∨ l = 4 ∨ l = 5 := by omega
 rcases this with rfl | rfl | rfl | rfl | rfl | rfl <;> rfl
theorem c21 (N : Int) (m : Nat) (w : Nat → Wd) (hm : m ≤ 1000000) (l : Nat) (f : Nat → Int) (hl : l ≤ 1000) : Contract Try.prog 21 [rsv N m w, ints l f] (I (ckF N m w l f)) := by
 refine contract_of Try.func21 rfl (by kernel_rfl) follows (by kernel_rfl) _ _ (by rw [Try.ntmps21]; simp) (by simp [OldL, Old, QV, rsv, ints]) ?_
 unfold ckF
 by_cases he : ckR N m w = 0
 ·rw [if_neg (by omega)]
  have ⟨n2, n5, _, _⟩ := ckR_ok he
  unfold rsv ints I
  (repeat' (first | with_reducible (first | apply splitVC_d <;> intro _ | apply splitVC <;> intro _) | ((with_reducible refine And.intro ?_ ?_); focus (first | exact True.intro | omega | (simp only [InK, ne_eq, and_true, true_and]; omega) | trivial)) | (simp -dsimp only [↓RP, RQ, Nat.reduceMul, reduceIte, reduceCtorEq, Nat.reduceAdd, Nat.reduceEqDiff, Nat.reduceLT, Nat.reduceLeDiff, QW, Try.results21])))
  refine callVC_old (c56 N m w hm he) (by (simp -dsimp only [↓RP, RQ, Nat.reduceMul, reduceIte, reduceCtorEq, Nat.reduceAdd, Nat.reduceEqDiff, Nat.reduceLT, Nat.reduceLeDiff, QX]); all_goals (try simp [QV, Go.Sx.Sub, Go.Sx.SubL]); all_goals (try exact lit2 _ _)) ?_
  (repeat' (first | with_reducible (first | apply splitVC_d <;> intro _ | apply splitVC <;> intro _) | ((with_reducible refine And.intro ?_ ?_); focus (first | exact True.intro | omega | (simp only [InK, ne_eq, and_true, true_and]; omega) | trivial)) | (simp -dsimp only [↓RP, RQ, Nat.reduceMul, reduceIte, reduceCtorEq, Nat.reduceAdd, Nat.reduceEqDiff, Nat.reduceLT, Nat.reduceLeDiff, QW, Try.results21])))
  ·rename_i h
   have hN : N = l := by omega
   subst hN
   have h5 : l ≤ 5 := by omega
   have hw := ckR_fit he
   (repeat' (first | with_reducible (first | apply splitVC_d <;> intro _ | apply splitVC <;> intro _) | ((with_reducible refine And.intro ?_ ?_); focus (first | exact True.intro | omega | (simp only [InK, ne_eq, and_true, true_and]; omega) | trivial)) | (simp -dsimp only [↓RP, RQ, Nat.reduceMul, reduceIte, reduceCtorEq, Nat.reduceAdd, Nat.reduceEqDiff, Nat.reduceLT, Nat.reduceLeDiff, rep5, copy_pl f l h5, QW, Try.results21])))
   refine callVC (c57 l h5 m w (fz f l)) ?_ ?_ ?_; iterate 2 focus ((simp -dsimp only [↓RP, RQ, Nat.reduceMul, reduceIte, reduceCtorEq, Nat.reduceAdd, Nat.reduceEqDiff, Nat.reduceLT, Nat.reduceLeDiff, QX]); all_goals (try simp [QV, Go.Sx.Sub, Go.Sx.SubL]); all_goals (try exact lit2 _ _))
   (repeat' (first | with_reducible (first | apply splitVC_d <;> intro _ | apply splitVC <;> intro _) | ((with_reducible refine And.intro ?_ ?_); focus (first | exact True.intro | omega | (simp only [InK, ne_eq, and_true, true_and]; omega) | trivial)) | (simp -dsimp only [↓RP, RQ, Nat.reduceMul, reduceIte, reduceCtorEq, Nat.reduceAdd, Nat.reduceEqDiff, Nat.reduceLT, Nat.reduceLeDiff, pl_fit, fz_fin f l h5, QW, Try.results21])))
   ·rename_i hf
    refine callVC (c58 l n5 m hm w hw (fz f l)) ?_ ?_ ?_; iterate 2 focus ((simp -dsimp only [↓RP, RQ, Nat.reduceMul, reduceIte, reduceCtorEq, Nat.reduceAdd, Nat.reduceEqDiff, Nat.reduceLT, Nat.reduceLeDiff, QX]); all_goals (try simp [QV, Go.Sx.Sub, Go.Sx.SubL]); all_goals (try exact lit2 _ _))
    (repeat' (first | with_reducible (first | apply splitVC_d <;> intro _ | apply splitVC <;> intro _) | ((with_reducible refine And.intro ?_ ?_); focus (first | exact True.intro | omega | (simp only [InK, ne_eq, and_true, true_and]; omega) | trivial)) | (simp -dsimp only [↓RP, RQ, Nat.reduceMul, reduceIte, reduceCtorEq, Nat.reduceAdd, Nat.reduceEqDiff, Nat.reduceLT, Nat.reduceLeDiff, QW, Try.results21])))
    ·rename_i ha
     refine I_eq ?_
     rw [if_neg (show ¬ ¬ Fin f l from fun h => h hf), if_neg (show ¬ ¬ agr w m f from fun h => h ((fz_agr hw).1 ha))]
    ·rename_i ha
     refine I_eq ?_
     rw [if_neg (show ¬ ¬ Fin f l from fun h => h hf), if_pos (show ¬ agr w m f from fun h => ha ((fz_agr hw).2 h))]
   ·rename_i hf
    refine I_eq ?_
    rw [if_pos (show ¬ Fin f l from hf)]
  ·refine I_eq ?_
   rw [if_pos (by omega)]
 ·rw [if_pos he]
  have hd : (!decide (ckR N m w = 0)) = true := by simp [he]
  unfold rsv ints I
  (repeat' (first | with_reducible (first | apply splitVC_d <;> intro _ | apply splitVC <;> intro _) | ((with_reducible refine And.intro ?_ ?_); focus (first | exact True.intro | omega | (simp only [InK, ne_eq, and_true, true_and]; omega) | trivial)) | (simp -dsimp only [↓RP, RQ, Nat.reduceMul, reduceIte, reduceCtorEq, Nat.reduceAdd, Nat.reduceEqDiff, Nat.reduceLT, Nat.reduceLeDiff, hd, QW, Try.results21])))
  refine callVC_old (c56e N m w hm he) (by (simp -dsimp only [↓RP, RQ, Nat.reduceMul, reduceIte, reduceCtorEq, Nat.reduceAdd, Nat.reduceEqDiff, Nat.reduceLT, Nat.reduceLeDiff, QX]); all_goals (try simp [QV, Go.Sx.Sub, Go.Sx.SubL]); all_goals (try exact lit2 _ _)) ?_
  (repeat' (first | with_reducible (first | apply splitVC_d <;> intro _ | apply splitVC <;> intro _) | ((with_reducible refine And.intro ?_ ?_); focus (first | exact True.intro | omega | (simp only [InK, ne_eq, and_true, true_and]; omega) | trivial)) | (simp -dsimp only [↓RP, RQ, Nat.reduceMul, reduceIte, reduceCtorEq, Nat.reduceAdd, Nat.reduceEqDiff, Nat.reduceLT, Nat.reduceLeDiff, hd, QW, Try.results21])))
def cnV (N : Int) (m : Nat) (w : Nat → Wd) : Int := if ckR N m w = 0 then ((agrs w m N.toNat).length : Nat) else 0
theorem c25 (N : Int) (m : Nat) (w : Nat → Wd) (hm : m ≤ 1000000) : Contract Try.prog 25 [rsv N m w] (.tup [I (cnV N m w), I (ckR N m w)]) := by
 refine contract_of Try.func25 rfl (by kernel_rfl) follows (by kernel_rfl) _ _ (by rw [Try.ntmps25]; simp) (by simp [OldL, Old, QV, rsv, ints]) ?_
 unfold cnV
 by_cases he : ckR N m w = 0
 ·rw [if_pos he]
  have ⟨n2, n5, _, _⟩ := ckR_ok he
  obtain ⟨n, rfl⟩ : ∃ n : Nat, N = n := ⟨N.toNat, by omega⟩
  have hw := ckR_fit he
  have hd : (!decide (ckR (n : Int) m w = 0)) = false := by simp [he]
  rw [he, Int.toNat_natCast]
  unfold rsv I
  (repeat' (first | with_reducible (first | apply splitVC_d <;> intro _ | apply splitVC <;> intro _) | ((with_reducible refine And.intro ?_ ?_); focus (first | exact True.intro | omega | (simp only [InK, ne_eq, and_true, true_and]; omega) | trivial)) | (simp -dsimp only [↓RP, RQ, Nat.reduceMul, reduceIte, reduceCtorEq, Nat.reduceAdd, Nat.reduceEqDiff, Nat.reduceLT, Nat.reduceLeDiff, QW, Try.results25])))
  refine callVC_old (c56 n m w hm he) (by (simp -dsimp only [↓RP, RQ, Nat.reduceMul, reduceIte, reduceCtorEq, Nat.reduceAdd, Nat.reduceEqDiff, Nat.reduceLT, Nat.reduceLeDiff, QX]); all_goals (try simp [QV, Go.Sx.Sub, Go.Sx.SubL]); all_goals (try exact lit2 _ _)) ?_
  (repeat' (first | with_reducible (first | apply splitVC_d <;> intro _ | apply splitVC <;> intro _) | ((with_reducible refine And.intro ?_ ?_); focus (first | exact True.intro | omega | (simp only [InK, ne_eq, and_true, true_and]; omega) | trivial)) | (simp -dsimp only [↓RP, RQ, Nat.reduceMul, reduceIte, reduceCtorEq, Nat.reduceAdd, Nat.reduceEqDiff, Nat.reduceLT, Nat.reduceLeDiff, hd, QW, Try.results25])))
  refine callVC (c64 n (by omega) (by omega) m hm w hw) ?_ ?_ ?_; iterate 2 focus ((simp -dsimp only [↓RP, RQ, Nat.reduceMul, reduceIte, reduceCtorEq, Nat.reduceAdd, Nat.reduceEqDiff, Nat.reduceLT, Nat.reduceLeDiff, QX]); all_goals (try simp [QV, Go.Sx.Sub, Go.Sx.SubL]); all_goals (try exact lit2 _ _))
  (repeat' (first | with_reducible (first | apply splitVC_d <;> intro _ | apply splitVC <;> intro _) | ((with_reducible refine And.intro ?_ ?_); focus (first | exact True.intro | omega | (simp only [InK, ne_eq, and_true, true_and]; omega) | trivial)) | (simp -dsimp only [↓RP, RQ, Nat.reduceMul, reduceIte, reduceCtorEq, Nat.reduceAdd, Nat.reduceEqDiff, Nat.reduceLT, Nat.reduceLeDiff, QW, Try.results25])))
 ·rw [if_neg he]
  have hd : (!decide (ckR N m w = 0)) = true := by simp [he]
  unfold rsv I
  (repeat' (first | with_reducible (first | apply splitVC_d <;> intro _ | apply splitVC <;> intro _) | ((with_reducible refine And.intro ?_ ?_); focus (first | exact True.intro | omega | (simp only [InK, ne_eq, and_true, true_and]; omega) | trivial)) | (simp -dsimp only [↓RP, RQ, Nat.reduceMul, reduceIte, reduceCtorEq, Nat.reduceAdd, Nat.reduceEqDiff, Nat.reduceLT, Nat.reduceLeDiff, hd, QW, Try.results25])))
  refine callVC_old (c56e N m w hm he) (by (simp -dsimp only [↓RP, RQ, Nat.reduceMul, reduceIte, reduceCtorEq, Nat.reduceAdd, Nat.reduceEqDiff, Nat.reduceLT, Nat.reduceLeDiff, QX]); all_goals (try simp [QV, Go.Sx.Sub, Go.Sx.SubL]); all_goals (try exact lit2 _ _)) ?_
  (repeat' (first | with_reducible (first | apply splitVC_d <;> intro _ | apply splitVC <;> intro _) | ((with_reducible refine And.intro ?_ ?_); focus (first | exact True.intro | omega | (simp only [InK, ne_eq, and_true, true_and]; omega) | trivial)) | (simp -dsimp only [↓RP, RQ, Nat.reduceMul, reduceIte, reduceCtorEq, Nat.reduceAdd, Nat.reduceEqDiff, Nat.reduceLT, Nat.reduceLeDiff, hd, QW, Try.results25])))
def fnL (N : Int) (m : Nat) (w : Nat → Wd) : Nat := if ckR N m w = 0 ∧ (agrs w m N.toNat).length ≠ 0 then N.toNat else 0
def fnE (N : Int) (m : Nat) (w : Nat → Wd) : Int := if ckR N m w ≠ 0 then ckR N m w else if (agrs w m N.toNat).length = 0 then 22 else 0
def fnF (N : Int) (m : Nat) (w : Nat → Wd) (i : Nat) : Int := Dg N.toNat ((agrs w m N.toNat).getD 0 0) i
theorem fn_bad {N : Int} {m : Nat} {w : Nat → Wd} (h : ckR N m w ≠ 0) : fnL N m w = 0 ∧ fnE N m w = ckR N m w := by
 unfold fnL fnE; rw [if_neg (fun h' => h h'.1), if_pos h]; exact ⟨rfl, rfl⟩
theorem fn_none {n m : Nat} {w : Nat → Wd} (h : ckR n m w = 0) (h0 : (agrs w m n).length = 0) : fnL n m w = 0 ∧ fnE n m w = 22 := by
 unfold fnL fnE; rw [Int.toNat_natCast, if_neg (fun h' => h'.2 h0), if_neg (by omega), if_pos h0]; exact ⟨rfl, rfl⟩
theorem fn_some {n m : Nat} {w : Nat → Wd} (h : ckR n m w = 0) (h0 : (agrs w m n).length ≠ 0) : fnL n m w = n ∧ fnE n m w = 0 := by
 unfold fnL fnE; rw [Int.toNat_natCast, if_pos ⟨h, h0⟩, if_neg (by omega), if_neg h0]; exact ⟨rfl, rfl⟩
theorem fnF_n (n m : Nat) (w : Nat → Wd) : fnF n m w = Dg n ((agrs w m n).getD 0 0) := by unfold fnF; rw [Int.toNat_natCast]
theorem lst_first {p : Nat → Bool} {t : Nat} (hp : p t = true) (hn : ∀ s, s < t → p s = false) : ∀ {T : Nat}, t < T → ∃ r, lst p T = t :: r := by
 have h0 : ∀ T, T ≤ t → lst p T = [] := fun T hT => by
  have := lst_nil (p := p) (T := T)
  exact List.length_eq_zero_iff.1 (this.2 fun s hs => hn s (by omega))
 intro T
 induction T with
 | zero => intro h; omega
 | succ T ih =>
  intro h
  simp only [lst]
  by_cases e : T = t
  ·subst e; rw [if_pos hp, h0 T (Nat.le_refl _)]; exact ⟨[], rfl⟩
  ·obtain ⟨r, hr⟩ := ih (by omega)
   rw [hr]
   split
   ·exact ⟨r ++ [T], rfl⟩
   ·exact ⟨r, rfl⟩
theorem agrs_first {w : Nat → Wd} {m n t : Nat} (ht : t < n ^ n) (hp : okA w m n t = true) (hn : ∀ s, s < t → okA w m n s = false) : (agrs w m n).length ≠ 0 ∧ (agrs w m n).getD 0 0 = t := by
 obtain ⟨r, hr⟩ := lst_first hp hn ht
 unfold agrs; rw [hr]; simp
theorem agrs_none {w : Nat → Wd} {m n : Nat} (hn : ∀ s, s < n ^ n → okA w m n s = false) : (agrs w m n).length = 0 := lst_nil.2 hn
theorem eq5_fin' (n : Nat) (h5 : n ≤ 5) : ∀ t, decide (eq5 (Dg n t) (rkU (Dg n t) n n)) = okF n t := fun t => eq5_fin n t h5
theorem c23 (N : Int) (m : Nat) (w : Nat → Wd) (hm : m ≤ 1000000) : Contract Try.prog 23 [rsv N m w] (.tup [.arr true false (fnL N m w) 1 (fun i _ => .val (.int .i64 (fnF N m w i))), I (fnE N m w)]) := by
 refine contract_of Try.func23 rfl (by kernel_rfl) follows (by kernel_rfl) _ _ (by rw [Try.ntmps23]; simp) (by simp [OldL, Old, QV, rsv, ints]) ?_
 by_cases he : ckR N m w = 0
 ·have ⟨n2, n5, _, _⟩ := ckR_ok he
  obtain ⟨n, rfl⟩ : ∃ n : Nat, N = n := ⟨N.toNat, by omega⟩
  have hw := ckR_fit he
  have hn1 : 1 ≤ n := by omega
  have h5 : n ≤ 5 := by omega
  have hpw := pow5 h5
  have eq5_fin := eq5_fin' n h5
  unfold rsv
  (repeat' (first | with_reducible (first | apply splitVC_d <;> intro _ | apply splitVC <;> intro _) | ((with_reducible refine And.intro ?_ ?_); focus (first | exact True.intro | omega | (simp only [InK, ne_eq, and_true, true_and]; omega) | trivial)) | (simp -dsimp only [↓RP, RQ, Nat.reduceMul, reduceIte, reduceCtorEq, Nat.reduceAdd, Nat.reduceEqDiff, Nat.reduceLT, Nat.reduceLeDiff, Try.results85, QW, Try.results23])))
  refine callVC_old (c56 n m w hm he) (by (simp -dsimp only [↓RP, RQ, Nat.reduceMul, reduceIte, reduceCtorEq, Nat.reduceAdd, Nat.reduceEqDiff, Nat.reduceLT, Nat.reduceLeDiff, QX]); all_goals (try simp [QV, Go.Sx.Sub, Go.Sx.SubL]); all_goals (try exact lit2 _ _)) ?_
  (repeat' (first | with_reducible (first | apply splitVC_d <;> intro _ | apply splitVC <;> intro _) | ((with_reducible refine And.intro ?_ ?_); focus (first | exact True.intro | omega | (simp only [InK, ne_eq, and_true, true_and]; omega) | trivial)) | (simp -dsimp only [↓RP, RQ, Nat.reduceMul, reduceIte, reduceCtorEq, Nat.reduceAdd, Nat.reduceEqDiff, Nat.reduceLT, Nat.reduceLeDiff, Try.results85, QW, Try.results23])))
  refine callVC_old (c61 n m w) (by (simp -dsimp only [↓RP, RQ, Nat.reduceMul, reduceIte, reduceCtorEq, Nat.reduceAdd, Nat.reduceEqDiff, Nat.reduceLT, Nat.reduceLeDiff, QX]); all_goals (try simp [QV, Go.Sx.Sub, Go.Sx.SubL]); all_goals (try exact lit2 _ _)) ?_
  (repeat' (first | with_reducible (first | apply splitVC_d <;> intro _ | apply splitVC <;> intro _) | ((with_reducible refine And.intro ?_ ?_); focus (first | exact True.intro | omega | (simp only [InK, ne_eq, and_true, true_and]; omega) | trivial)) | (simp -dsimp only [↓RP, RQ, Nat.reduceMul, reduceIte, reduceCtorEq, Nat.reduceAdd, Nat.reduceEqDiff, Nat.reduceLT, Nat.reduceLeDiff, Try.results85, QW, Try.results23])))
  refine rangeIH (ps := [17]) follows (handAt 6) (by rfl) Try.func85 rfl (by kernel_rfl) (by kernel_rfl) (by rw [Try.results85]) (by rw [Try.ntmps85]; simp) fun out L R => ?_
  (repeat' (first | with_reducible (first | apply splitVC_d <;> intro _ | apply splitVC <;> intro _) | ((with_reducible refine And.intro ?_ ?_); focus (first | exact True.intro | omega | (simp only [InK, ne_eq, and_true, true_and]; omega) | trivial)) | (simp -dsimp only [↓RP, RQ, Nat.reduceMul, reduceIte, reduceCtorEq, Nat.reduceAdd, Nat.reduceEqDiff, Nat.reduceLT, Nat.reduceLeDiff, Try.results85, QW, Try.results23])))
  refine loop_vc (fun (i : Nat) => i ≤ n) (fun i => ⟨[(0, .yld 15), (1, .ref false 1 (fun _ => .ref false 2 (fun j => rf n m w j))), (3, .ptr 16 0), (10, .val (.int .i64 (n : Nat))), (11, .val (.int .i64 (i : Nat)))], [(16, .cells 73 (pl (one0 i))), (15, .loop L .ready), (8, .cells 69 [.ref true 2 (fun j => rf n m w j)]), (2, .cells 28 [.val (.int .i64 0)]), (1, .cells 25 [.val (.slice none 0 0)]), (0, .cells 24 [.val (.int .i64 (n : Nat)), .arr false false m 3 (fun i j => wf (w i) j)])], 30⟩) (fun i => n - i) 0 (Nat.zero_le _) (weak [] [] ?_ ?_ ?_ rfl) fun i hi => ?_
  iterate 3 focus ((simp -dsimp only [↓RP, RQ, Nat.reduceMul, reduceIte, reduceCtorEq, Nat.reduceAdd, Nat.reduceEqDiff, Nat.reduceLT, Nat.reduceLeDiff, QV, pl, one0]); all_goals (try simp [QV]))
  by_cases hlt : i < n
  ·have hi5 : i < 5 := by omega
   (repeat' (first | with_reducible (first | apply splitVC_d <;> intro _ | apply splitVC <;> intro _) | ((with_reducible refine And.intro ?_ ?_); focus (first | exact True.intro | omega | (simp only [InK, ne_eq, and_true, true_and]; omega) | trivial)) | (simp -dsimp only [↓RP, RQ, Nat.reduceMul, reduceIte, reduceCtorEq, Nat.reduceAdd, Nat.reduceEqDiff, Nat.reduceLT, Nat.reduceLeDiff, one0_S, Try.results85, QW, Try.results23])))
   all_goals try (exfalso; omega)
   refine ⟨i + 1, by omega, by omega, weak [] [] ?_ ?_ ?_ rfl⟩
   iterate 3 focus ((simp -dsimp only [↓RP, RQ, Nat.reduceMul, reduceIte, reduceCtorEq, Nat.reduceAdd, Nat.reduceEqDiff, Nat.reduceLT, Nat.reduceLeDiff, QV]); all_goals (try simp [QV]))
  have hin : n = i := by omega
  subst hin
  (repeat' (first | with_reducible (first | apply splitVC_d <;> intro _ | apply splitVC <;> intro _) | ((with_reducible refine And.intro ?_ ?_); focus (first | exact True.intro | omega | (simp only [InK, ne_eq, and_true, true_and]; omega) | trivial)) | (simp -dsimp only [↓RP, RQ, Nat.reduceMul, reduceIte, reduceCtorEq, Nat.reduceAdd, Nat.reduceEqDiff, Nat.reduceLT, Nat.reduceLeDiff, Try.results85, QW, Try.results23])))
  all_goals try (exfalso; omega)
  refine loop_vc (fun (t : Nat) => t < n ^ n ∧ ∀ s, s < t → okA w m n s = false) (fun t => ⟨[(0, .yld 15), (1, .ref false 1 (fun _ => .ref false 2 (fun j => rf n m w j))), (3, .ptr 16 0)], [(16, .cells 73 (pl (Dg n t))), (15, .loop L .ready), (8, .cells 69 [.ref true 2 (fun j => rf n m w j)]), (2, .cells 28 [.val (.int .i64 0)]), (1, .cells 25 [.val (.slice none 0 0)]), (0, .cells 24 [.val (.int .i64 (n : Nat)), .arr false false m 3 (fun i j => wf (w i) j)])], 31⟩) (fun t => n ^ n - t) 0 ⟨pow_pos' hn1, fun s hs => by omega⟩ (weak [] [] ?_ ?_ ?_ rfl) fun t ht => ?_
  iterate 3 focus ((simp -dsimp only [↓RP, RQ, Nat.reduceMul, reduceIte, reduceCtorEq, Nat.reduceAdd, Nat.reduceEqDiff, Nat.reduceLT, Nat.reduceLeDiff, QV, one0_n]); all_goals (try simp [one0_n, QV]))
  obtain ⟨ht, hx⟩ := ht
  have hlen := lst_len (okF n) t
  (repeat' (first | with_reducible (first | apply splitVC_d <;> intro _ | apply splitVC <;> intro _) | ((with_reducible refine And.intro ?_ ?_); focus (first | exact True.intro | omega | (simp only [InK, ne_eq, and_true, true_and]; omega) | trivial)) | (simp -dsimp only [↓RP, RQ, Nat.reduceMul, reduceIte, reduceCtorEq, Nat.reduceAdd, Nat.reduceEqDiff, Nat.reduceLT, Nat.reduceLeDiff, pl_fit, Try.results85, QW, Try.results23])))
  refine tailRegion follows 8 (by kernel_rfl) ?_
  simp only [List.take_succ_cons, List.take_zero, List.drop_succ_cons, List.drop_zero]
  (repeat' (first | with_reducible (first | apply splitVC_d <;> intro _ | apply splitVC <;> intro _) | ((with_reducible refine And.intro ?_ ?_); focus (first | exact True.intro | omega | (simp only [InK, ne_eq, and_true, true_and]; omega) | trivial)) | (simp -dsimp only [↓RP, RQ, Nat.reduceMul, reduceIte, reduceCtorEq, Nat.reduceAdd, Nat.reduceEqDiff, Nat.reduceLT, Nat.reduceLeDiff, pl_fit, Try.results85, QW, Try.results23])))
  refine callVC (c57 n h5 m w (Dg n t)) ?_ ?_ ?_; iterate 2 focus ((simp -dsimp only [↓RP, RQ, Nat.reduceMul, reduceIte, reduceCtorEq, Nat.reduceAdd, Nat.reduceEqDiff, Nat.reduceLT, Nat.reduceLeDiff, QX]); all_goals (try simp [QV, Go.Sx.Sub, Go.Sx.SubL]); all_goals (try exact lit2 _ _))
  cases hok : okF n t with
  | true =>
   (repeat' (first | with_reducible (first | apply splitVC_d <;> intro _ | apply splitVC <;> intro _) | ((with_reducible refine And.intro ?_ ?_); focus (first | exact True.intro | omega | (simp only [InK, ne_eq, and_true, true_and]; omega) | trivial)) | (simp -dsimp only [↓RP, RQ, Nat.reduceMul, reduceIte, reduceCtorEq, Nat.reduceAdd, Nat.reduceEqDiff, Nat.reduceLT, Nat.reduceLeDiff, eq5_fin, hok, Try.results85, QW, Try.results23])))
   refine yieldIT follows trivial R (by rfl) (by rfl) fun out2 => ?_
   (repeat' (first | with_reducible (first | apply splitVC_d <;> intro _ | apply splitVC <;> intro _) | ((with_reducible refine And.intro ?_ ?_); focus (first | exact True.intro | omega | (simp only [InK, ne_eq, and_true, true_and]; omega) | trivial)) | (simp -dsimp only [↓RP, RQ, Nat.reduceMul, reduceIte, reduceCtorEq, Nat.reduceAdd, Nat.reduceEqDiff, Nat.reduceLT, Nat.reduceLeDiff, Try.results85, QW, Try.results23])))
   all_goals try (exfalso; omega)
   refine callVC (c58 n (by omega) m hm w hw (Dg n t)) ?_ ?_ ?_; iterate 2 focus ((simp -dsimp only [↓RP, RQ, Nat.reduceMul, reduceIte, reduceCtorEq, Nat.reduceAdd, Nat.reduceEqDiff, Nat.reduceLT, Nat.reduceLeDiff, QX]); all_goals (try simp [QV, Go.Sx.Sub, Go.Sx.SubL]); all_goals (try exact lit2 _ _))
   (repeat' (first | with_reducible (first | apply splitVC_d <;> intro _ | apply splitVC <;> intro _) | ((with_reducible refine And.intro ?_ ?_); focus (first | exact True.intro | omega | (simp only [InK, ne_eq, and_true, true_and]; omega) | trivial)) | (simp -dsimp only [↓RP, RQ, Nat.reduceMul, reduceIte, reduceCtorEq, Nat.reduceAdd, Nat.reduceEqDiff, Nat.reduceLT, Nat.reduceLeDiff, Try.results85, QW, Try.results23])))
   all_goals try (exfalso; omega)
   ·rename_i hag
    obtain ⟨h0, hg⟩ := agrs_first ht (okA_iff.2 ⟨by simpa [okF] using hok, hag⟩) hx
    refine callVC (c62 n hn1 (by omega) (Dg n t)) (by (simp -dsimp only [↓RP, RQ, Nat.reduceMul, reduceIte, reduceCtorEq, Nat.reduceAdd, Nat.reduceEqDiff, Nat.reduceLT, Nat.reduceLeDiff, QV, ints]); all_goals (try simp [QV]); all_goals (exact ⟨h5, fun i hi => by rw [pl_get _ (by omega)]; rfl⟩)) (by (simp -dsimp only [↓RP, RQ, Nat.reduceMul, reduceIte, reduceCtorEq, Nat.reduceAdd, Nat.reduceEqDiff, Nat.reduceLT, Nat.reduceLeDiff, QX]); all_goals (try simp [QV])) ?_
    (repeat' (first | with_reducible (first | apply splitVC_d <;> intro _ | apply splitVC <;> intro _) | ((with_reducible refine And.intro ?_ ?_); focus (first | exact True.intro | omega | (simp only [InK, ne_eq, and_true, true_and]; omega) | trivial)) | (simp -dsimp only [↓RP, RQ, Nat.reduceMul, reduceIte, reduceCtorEq, Nat.reduceAdd, Nat.reduceEqDiff, Nat.reduceLT, Nat.reduceLeDiff, Try.results85, QW, Try.results23])))
    all_goals try (exfalso; omega)
    exact ⟨⟨fun h => h, (fn_some he h0).1, fun i j _ _ => by rw [fnF_n, hg]⟩, by rw [(fn_some he h0).2]⟩
   rename_i hag
   have hx2 : okA w m n t = false := by unfold okA; rw [decide_eq_false hag]; simp
   (repeat' (first | with_reducible (first | apply splitVC_d <;> intro _ | apply splitVC <;> intro _) | ((with_reducible refine And.intro ?_ ?_); focus (first | exact True.intro | omega | (simp only [InK, ne_eq, and_true, true_and]; omega) | trivial)) | (simp -dsimp only [↓RP, RQ, Nat.reduceMul, reduceIte, reduceCtorEq, Nat.reduceAdd, Nat.reduceEqDiff, Nat.reduceLT, Nat.reduceLeDiff, Try.results85, QW, Try.results23])))
   all_goals try (exfalso; omega)
   refine loop_vc (fun (c : Nat) => c ≤ n ∧ ∀ j, c ≤ j → j < n → Dg n t j = n) (fun c => ⟨[(0, .yld 15), (1, .ref false 1 (fun _ => .ref false 2 (fun j => rf n m w j))), (3, .ptr 16 0), (5, .val (.int .i64 ((c : Int) - 1)))], [(16, .cells 73 (pl (nxF n t c))), (15, .loop L .ready), (8, .cells 69 [.ref true 2 (fun j => rf n m w j)]), (2, .cells 28 [.val (.int .i64 0)]), (1, .cells 25 [.val (.slice none 0 0)]), (0, .cells 24 [.val (.int .i64 (n : Nat)), .arr false false m 3 (fun i j => wf (w i) j)])], 200⟩) (fun c => c) n ⟨Nat.le_refl _, fun j hj => by omega⟩ (weak [] [] ?_ ?_ ?_ rfl) fun c hc => ?_
   iterate 3 focus ((simp -dsimp only [↓RP, RQ, Nat.reduceMul, reduceIte, reduceCtorEq, Nat.reduceAdd, Nat.reduceEqDiff, Nat.reduceLT, Nat.reduceLeDiff, QV, nxF_n]); all_goals (try simp [nxF_n, QV]))
   obtain ⟨hc, hl⟩ := hc
   cases c with
   | zero =>
    have hlast := all_last hn1 ht hl
    (repeat' (first | with_reducible (first | apply splitVC_d <;> intro _ | apply splitVC <;> intro _) | ((with_reducible refine And.intro ?_ ?_); focus (first | exact True.intro | omega | (simp only [InK, ne_eq, and_true, true_and]; omega) | trivial)) | (simp -dsimp only [↓RP, RQ, Nat.reduceMul, reduceIte, reduceCtorEq, Nat.reduceAdd, Nat.reduceEqDiff, Nat.reduceLT, Nat.reduceLeDiff, Try.results85, QW, Try.results23])))
    all_goals try (exfalso; omega)
    have h0 := agrs_none (w := w) (m := m) (n := n) fun s hs => by
     by_cases e : s = t
     ·rw [e]; exact hx2
     ·exact hx s (by omega)
    exact ⟨(fn_none he h0).1, by rw [(fn_none he h0).2]⟩
   | succ c =>
    have hc5 : c < 5 := by omega
    have hcn : c < n := by omega
    have b := Dg_bd (n := n) (t := t) hcn
    have ec : ((c + 1 : Nat) : Int) - 1 = (c : Int) := by omega
    by_cases hd : Dg n t c = n
    ·have hdb : decide (Dg n t c = n) = true := decide_eq_true hd
     (repeat' (first | with_reducible (first | apply splitVC_d <;> intro _ | apply splitVC <;> intro _) | ((with_reducible refine And.intro ?_ ?_); focus (first | exact True.intro | omega | (simp only [InK, ne_eq, and_true, true_and]; omega) | trivial)) | (simp -dsimp only [↓RP, RQ, Nat.reduceMul, reduceIte, reduceCtorEq, Nat.reduceAdd, Nat.reduceEqDiff, Nat.reduceLT, Nat.reduceLeDiff, ec, pl_get (nxF n t (c + 1)) hc5, nxF_at, nxF_S hcn, hdb, Try.results85, QW, Try.results23])))
     all_goals try (exfalso; omega)
     refine ⟨c, ⟨by omega, fun j h1 h2 => ?_⟩, by omega, weak [] [] ?_ ?_ ?_ rfl⟩
     ·by_cases e : j = c
      ·subst e; exact hd
      ·exact hl j (by omega) h2
     ·(simp -dsimp only [↓RP, RQ, Nat.reduceMul, reduceIte, reduceCtorEq, Nat.reduceAdd, Nat.reduceEqDiff, Nat.reduceLT, Nat.reduceLeDiff, QV]); all_goals (try (simp [QV])); all_goals (try omega)
     iterate 2 focus ((simp -dsimp only [↓RP, RQ, Nat.reduceMul, reduceIte, reduceCtorEq, Nat.reduceAdd, Nat.reduceEqDiff, Nat.reduceLT, Nat.reduceLeDiff, QV]); all_goals (try simp [QV]))
    ·have hm := Dg_more hcn ht hd
     have hdb : decide (Dg n t c = n) = false := decide_eq_false hd
     (repeat' (first | with_reducible (first | apply splitVC_d <;> intro _ | apply splitVC <;> intro _) | ((with_reducible refine And.intro ?_ ?_); focus (first | exact True.intro | omega | (simp only [InK, ne_eq, and_true, true_and]; omega) | trivial)) | (simp -dsimp only [↓RP, RQ, Nat.reduceMul, reduceIte, reduceCtorEq, Nat.reduceAdd, Nat.reduceEqDiff, Nat.reduceLT, Nat.reduceLeDiff, ec, pl_get (nxF n t (c + 1)) hc5, nxF_at, hdb, nxF_up hcn (fun j h1 h2 => hl j (by omega) h2) hd, Try.results85, QW, Try.results23])))
     all_goals try (exfalso; omega)
     refine ⟨t + 1, ⟨hm, fun s hs => (Nat.lt_or_eq_of_le (Nat.le_of_lt_succ hs)).elim (hx s) fun e => e ▸ hx2⟩, by omega, weak [] [] ?_ ?_ ?_ rfl⟩
     iterate 3 focus ((simp -dsimp only [↓RP, RQ, Nat.reduceMul, reduceIte, reduceCtorEq, Nat.reduceAdd, Nat.reduceEqDiff, Nat.reduceLT, Nat.reduceLeDiff, QV]); all_goals (try simp [QV]))
  | false =>
   have hx2 : okA w m n t = false := by unfold okA; rw [hok]; rfl
   (repeat' (first | with_reducible (first | apply splitVC_d <;> intro _ | apply splitVC <;> intro _) | ((with_reducible refine And.intro ?_ ?_); focus (first | exact True.intro | omega | (simp only [InK, ne_eq, and_true, true_and]; omega) | trivial)) | (simp -dsimp only [↓RP, RQ, Nat.reduceMul, reduceIte, reduceCtorEq, Nat.reduceAdd, Nat.reduceEqDiff, Nat.reduceLT, Nat.reduceLeDiff, eq5_fin, hok, Try.results85, QW, Try.results23])))
   all_goals try (exfalso; omega)
   refine loop_vc (fun (c : Nat) => c ≤ n ∧ ∀ j, c ≤ j → j < n → Dg n t j = n) (fun c => ⟨[(0, .yld 15), (1, .ref false 1 (fun _ => .ref false 2 (fun j => rf n m w j))), (3, .ptr 16 0), (5, .val (.int .i64 ((c : Int) - 1)))], [(16, .cells 73 (pl (nxF n t c))), (15, .loop L .ready), (8, .cells 69 [.ref true 2 (fun j => rf n m w j)]), (2, .cells 28 [.val (.int .i64 0)]), (1, .cells 25 [.val (.slice none 0 0)]), (0, .cells 24 [.val (.int .i64 (n : Nat)), .arr false false m 3 (fun i j => wf (w i) j)])], 200⟩) (fun c => c) n ⟨Nat.le_refl _, fun j hj => by omega⟩ (weak [] [] ?_ ?_ ?_ rfl) fun c hc => ?_
   iterate 3 focus ((simp -dsimp only [↓RP, RQ, Nat.reduceMul, reduceIte, reduceCtorEq, Nat.reduceAdd, Nat.reduceEqDiff, Nat.reduceLT, Nat.reduceLeDiff, QV, nxF_n]); all_goals (try simp [nxF_n, QV]))
   obtain ⟨hc, hl⟩ := hc
   cases c with
   | zero =>
    have hlast := all_last hn1 ht hl
    (repeat' (first | with_reducible (first | apply splitVC_d <;> intro _ | apply splitVC <;> intro _) | ((with_reducible refine And.intro ?_ ?_); focus (first | exact True.intro | omega | (simp only [InK, ne_eq, and_true, true_and]; omega) | trivial)) | (simp -dsimp only [↓RP, RQ, Nat.reduceMul, reduceIte, reduceCtorEq, Nat.reduceAdd, Nat.reduceEqDiff, Nat.reduceLT, Nat.reduceLeDiff, Try.results85, QW, Try.results23])))
    all_goals try (exfalso; omega)
    have h0 := agrs_none (w := w) (m := m) (n := n) fun s hs => by
     by_cases e : s = t
     ·rw [e]; exact hx2
     ·exact hx s (by omega)
    exact ⟨(fn_none he h0).1, by rw [(fn_none he h0).2]⟩
   | succ c =>
    have hc5 : c < 5 := by omega
    have hcn : c < n := by omega
    have b := Dg_bd (n := n) (t := t) hcn
    have ec : ((c + 1 : Nat) : Int) - 1 = (c : Int) := by omega
    by_cases hd : Dg n t c = n
    ·have hdb : decide (Dg n t c = n) = true := decide_eq_true hd
     (repeat' (first | with_reducible (first | apply splitVC_d <;> intro _ | apply splitVC <;> intro _) | ((with_reducible refine And.intro ?_ ?_); focus (first | exact True.intro | omega | (simp only [InK, ne_eq, and_true, true_and]; omega) | trivial)) | (simp -dsimp only [↓RP, RQ, Nat.reduceMul, reduceIte, reduceCtorEq, Nat.reduceAdd, Nat.reduceEqDiff, Nat.reduceLT, Nat.reduceLeDiff, ec, pl_get (nxF n t (c + 1)) hc5, nxF_at, nxF_S hcn, hdb, Try.results85, QW, Try.results23])))
     all_goals try (exfalso; omega)
     refine ⟨c, ⟨by omega, fun j h1 h2 => ?_⟩, by omega, weak [] [] ?_ ?_ ?_ rfl⟩
     ·by_cases e : j = c
      ·subst e; exact hd
      ·exact hl j (by omega) h2
     ·(simp -dsimp only [↓RP, RQ, Nat.reduceMul, reduceIte, reduceCtorEq, Nat.reduceAdd, Nat.reduceEqDiff, Nat.reduceLT, Nat.reduceLeDiff, QV]); all_goals (try (simp [QV])); all_goals (try omega)
     iterate 2 focus ((simp -dsimp only [↓RP, RQ, Nat.reduceMul, reduceIte, reduceCtorEq, Nat.reduceAdd, Nat.reduceEqDiff, Nat.reduceLT, Nat.reduceLeDiff, QV]); all_goals (try simp [QV]))
    ·have hm := Dg_more hcn ht hd
     have hdb : decide (Dg n t c = n) = false := decide_eq_false hd
     (repeat' (first | with_reducible (first | apply splitVC_d <;> intro _ | apply splitVC <;> intro _) | ((with_reducible refine And.intro ?_ ?_); focus (first | exact True.intro | omega | (simp only [InK, ne_eq, and_true, true_and]; omega) | trivial)) | (simp -dsimp only [↓RP, RQ, Nat.reduceMul, reduceIte, reduceCtorEq, Nat.reduceAdd, Nat.reduceEqDiff, Nat.reduceLT, Nat.reduceLeDiff, ec, pl_get (nxF n t (c + 1)) hc5, nxF_at, hdb, nxF_up hcn (fun j h1 h2 => hl j (by omega) h2) hd, Try.results85, QW, Try.results23])))
     all_goals try (exfalso; omega)
     refine ⟨t + 1, ⟨hm, fun s hs => (Nat.lt_or_eq_of_le (Nat.le_of_lt_succ hs)).elim (hx s) fun e => e ▸ hx2⟩, by omega, weak [] [] ?_ ?_ ?_ rfl⟩
     iterate 3 focus ((simp -dsimp only [↓RP, RQ, Nat.reduceMul, reduceIte, reduceCtorEq, Nat.reduceAdd, Nat.reduceEqDiff, Nat.reduceLT, Nat.reduceLeDiff, QV]); all_goals (try simp [QV]))
 ·rw [(fn_bad he).1, (fn_bad he).2]
  have hd : (!decide (ckR N m w = 0)) = true := by simp [he]
  unfold rsv I
  (repeat' (first | with_reducible (first | apply splitVC_d <;> intro _ | apply splitVC <;> intro _) | ((with_reducible refine And.intro ?_ ?_); focus (first | exact True.intro | omega | (simp only [InK, ne_eq, and_true, true_and]; omega) | trivial)) | (simp -dsimp only [↓RP, RQ, Nat.reduceMul, reduceIte, reduceCtorEq, Nat.reduceAdd, Nat.reduceEqDiff, Nat.reduceLT, Nat.reduceLeDiff, hd, Try.results85, QW, Try.results23])))
  refine callVC_old (c56e N m w hm he) (by (simp -dsimp only [↓RP, RQ, Nat.reduceMul, reduceIte, reduceCtorEq, Nat.reduceAdd, Nat.reduceEqDiff, Nat.reduceLT, Nat.reduceLeDiff, QX]); all_goals (try simp [QV, Go.Sx.Sub, Go.Sx.SubL]); all_goals (try exact lit2 _ _)) ?_
  (repeat' (first | with_reducible (first | apply splitVC_d <;> intro _ | apply splitVC <;> intro _) | ((with_reducible refine And.intro ?_ ?_); focus (first | exact True.intro | omega | (simp only [InK, ne_eq, and_true, true_and]; omega) | trivial)) | (simp -dsimp only [↓RP, RQ, Nat.reduceMul, reduceIte, reduceCtorEq, Nat.reduceAdd, Nat.reduceEqDiff, Nat.reduceLT, Nat.reduceLeDiff, hd, Try.results85, QW, Try.results23])))
end Go.He
end
section
set_option linter.unusedSimpArgs false
set_option linter.unusedVariables false
set_option linter.defProp false
set_option maxRecDepth 100000
set_option maxHeartbeats 16000000
namespace Go.He
open Go.Proofs
open Go.Sx
def lsv (L : List Int) : SV := .arr false false L.length 1 (fun i _ => .val (.int .i64 (L.getD i 0)))
theorem mem_any (L : List Int) (v : Int) : anyI (fun i => decide (v = L.getD i 0)) L.length ↔ v ∈ L := by
 constructor
 ·rintro ⟨i, hi, h⟩
  have h : v = L.getD i 0 := by simpa using h
  rw [h, List.getD_eq_getElem?_getD]
  simp [hi]
 ·intro h
  obtain ⟨i, hi, e⟩ := List.getElem_of_mem h
  exact ⟨i, hi, by simp [hi, e]⟩
def vAt (u : Nat → Int) (v : Int) (i : Nat) : Bool := decide (v = u i)
theorem c91 (m : Nat) (u : Nat → Int) (v : Int) (hm : m ≤ 1000000) : Contract Try.prog 91 [ints m u, I v] (I (fstI (vAt u v) 0 m)) := by
 refine contract_of Try.func91 rfl (by kernel_rfl) follows (by kernel_rfl) _ _ (by rw [Try.ntmps91]; simp) (by simp [OldL, Old, QV, psv, rsv, pref, wag, wsv, ints, arrs, I, B]) ?_
 unfold ints I
 (repeat' (first | with_reducible (first | apply splitVC_d <;> intro _ | apply splitVC <;> intro _) | ((with_reducible refine And.intro ?_ ?_); focus (first | exact True.intro | omega | (simp only [InK, ne_eq, and_true, true_and]; omega) | trivial)) | (simp -dsimp only [↓RP, RQ, Nat.reduceMul, reduceIte, reduceCtorEq, Nat.reduceAdd, Nat.reduceEqDiff, Nat.reduceLT, Nat.reduceLeDiff, QW, Try.results91])))
 refine loop_vc (fun i => i ≤ m ∧ fstI (vAt u v) 0 m = fstI (vAt u v) i (m - i)) (fun i => ⟨[(0, .arr false false m 1 (fun i _ => .val (.int .i64 (u i)))), (1, .val (.int .i64 v)), (7, .val (.int .i64 m)), (8, .val (.int .i64 i))], [], 0⟩) (fun i => m - i) 0 ⟨Nat.zero_le _, rfl⟩ (weak [] [] ?_ ?_ ?_) fun i hi => ?_
 iterate 3 focus ((simp -dsimp only [↓RP, RQ, Nat.reduceMul, reduceIte, reduceCtorEq, Nat.reduceAdd, Nat.reduceEqDiff, Nat.reduceLT, Nat.reduceLeDiff, QV]); all_goals (try simp [QV]))
 obtain ⟨hi, he⟩ := hi
 have e1 : ∀ k, m - i = k + 1 → fstI (vAt u v) i (m - i) = if vAt u v i = true then (i : Int) else fstI (vAt u v) (i + 1) k := fun k hk => by rw [hk]; rfl
 by_cases hlt : i < m
 ·have e2 := e1 (m - (i + 1)) (by omega)
  (repeat' (first | with_reducible (first | apply splitVC_d <;> intro _ | apply splitVC <;> intro _) | ((with_reducible refine And.intro ?_ ?_); focus (first | exact True.intro | omega | (simp only [InK, ne_eq, and_true, true_and]; omega) | trivial)) | (simp -dsimp only [↓RP, RQ, Nat.reduceMul, reduceIte, reduceCtorEq, Nat.reduceAdd, Nat.reduceEqDiff, Nat.reduceLT, Nat.reduceLeDiff, QW, Try.results91])))
  all_goals try (exfalso; omega)
  ·rename_i h
   refine I_eq ?_
   rw [he, e2, if_pos (by simpa [vAt] using h)]
  ·rename_i h
   refine ⟨i + 1, ⟨by omega, ?_⟩, by omega, weak [] [] ?_ ?_ ?_⟩
   ·rw [he, e2, if_neg (by simpa [vAt] using h)]
   iterate 3 focus ((simp -dsimp only [↓RP, RQ, Nat.reduceMul, reduceIte, reduceCtorEq, Nat.reduceAdd, Nat.reduceEqDiff, Nat.reduceLT, Nat.reduceLeDiff, QV]); all_goals (try simp [QV]))
 ·(repeat' (first | with_reducible (first | apply splitVC_d <;> intro _ | apply splitVC <;> intro _) | ((with_reducible refine And.intro ?_ ?_); focus (first | exact True.intro | omega | (simp only [InK, ne_eq, and_true, true_and]; omega) | trivial)) | (simp -dsimp only [↓RP, RQ, Nat.reduceMul, reduceIte, reduceCtorEq, Nat.reduceAdd, Nat.reduceEqDiff, Nat.reduceLT, Nat.reduceLeDiff, QW, Try.results91])))
  all_goals try (exfalso; omega)
  refine I_eq ?_
  have : m - i = 0 := by omega
  rw [he, this]; rfl
theorem c68 (m : Nat) (u : Nat → Int) (v : Int) (hm : m ≤ 1000000) : Contract Try.prog 68 [ints m u, I v] (B (decide (anyI (vAt u v) m))) := by
 refine contract_of Try.func68 rfl (by kernel_rfl) follows (by kernel_rfl) _ _ (by rw [Try.ntmps68]; simp) (by simp [OldL, Old, QV, psv, rsv, pref, wag, wsv, ints, arrs, I, B]) ?_
 unfold ints I B
 (repeat' (first | with_reducible (first | apply splitVC_d <;> intro _ | apply splitVC <;> intro _) | ((with_reducible refine And.intro ?_ ?_); focus (first | exact True.intro | omega | (simp only [InK, ne_eq, and_true, true_and]; omega) | trivial)) | (with_reducible refine callVC (c91 m u v hm) ?_ ?_ ?_; iterate 2 focus ((simp -dsimp only [↓RP, RQ, Nat.reduceMul, reduceIte, reduceCtorEq, Nat.reduceAdd, Nat.reduceEqDiff, Nat.reduceLT, Nat.reduceLeDiff, QX]); all_goals (try simp [QV, Go.Sx.Sub, Go.Sx.SubL]); all_goals (try exact lit2 _ _))) | (simp -dsimp only [↓RP, RQ, Nat.reduceMul, reduceIte, reduceCtorEq, Nat.reduceAdd, Nat.reduceEqDiff, Nat.reduceLT, Nat.reduceLeDiff, QW, Try.results68])))
 all_goals (refine B_eq ?_; rw [Bool.eq_iff_iff]; simp [← anyI_iff])
theorem c71 (m : Nat) (u : Nat → Int) (v : Int) (hm : m ≤ 1000000) : Contract Try.prog 71 [ints m u, I v] (B (decide (anyI (vAt u v) m))) := by
 refine contract_of Try.func71 rfl (by kernel_rfl) follows (by kernel_rfl) _ _ (by rw [Try.ntmps71]; simp) (by simp [OldL, Old, QV, psv, rsv, pref, wag, wsv, ints, arrs, I, B]) ?_
 unfold ints I B
 (repeat' (first | with_reducible (first | apply splitVC_d <;> intro _ | apply splitVC <;> intro _) | ((with_reducible refine And.intro ?_ ?_); focus (first | exact True.intro | omega | (simp only [InK, ne_eq, and_true, true_and]; omega) | trivial)) | (simp -dsimp only [↓RP, RQ, Nat.reduceMul, reduceIte, reduceCtorEq, Nat.reduceAdd, Nat.reduceEqDiff, Nat.reduceLT, Nat.reduceLeDiff, QW, Try.results71])))
 refine loop_vc (fun i => i ≤ m ∧ ∀ j, j < i → vAt u v j = false) (fun i => ⟨[(0, .arr false false m 1 (fun i _ => .val (.int .i64 (u i)))), (1, .val (.int .i64 v)), (5, .val (.int .i64 (i : Nat)))], [], 0⟩) (fun i => m - i) 0 ⟨Nat.zero_le _, fun j hj => by omega⟩ (weak [] [] ?_ ?_ ?_) fun i hi => ?_
 iterate 3 focus ((simp -dsimp only [↓RP, RQ, Nat.reduceMul, reduceIte, reduceCtorEq, Nat.reduceAdd, Nat.reduceEqDiff, Nat.reduceLT, Nat.reduceLeDiff, QV]); all_goals (try simp [QV]))
 obtain ⟨hi, he⟩ := hi
 by_cases hlt : i < m
 ·(repeat' (first | with_reducible (first | apply splitVC_d <;> intro _ | apply splitVC <;> intro _) | ((with_reducible refine And.intro ?_ ?_); focus (first | exact True.intro | omega | (simp only [InK, ne_eq, and_true, true_and]; omega) | trivial)) | (simp -dsimp only [↓RP, RQ, Nat.reduceMul, reduceIte, reduceCtorEq, Nat.reduceAdd, Nat.reduceEqDiff, Nat.reduceLT, Nat.reduceLeDiff, QW, Try.results71])))
  all_goals try (exfalso; omega)
  ·rename_i h
   refine B_eq ?_
   rw [decide_eq_true (show anyI (vAt u v) m from ⟨i, hlt, decide_eq_true (by omega)⟩)]
  ·rename_i h
   refine ⟨i + 1, ⟨by omega, fun j hj => ?_⟩, by omega, weak [] [] ?_ ?_ ?_⟩
   ·by_cases e : j = i
    ·subst e; exact decide_eq_false (by omega)
    ·exact he j (by omega)
   iterate 3 focus ((simp -dsimp only [↓RP, RQ, Nat.reduceMul, reduceIte, reduceCtorEq, Nat.reduceAdd, Nat.reduceEqDiff, Nat.reduceLT, Nat.reduceLeDiff, QV]); all_goals (try simp [QV]))
 ·(repeat' (first | with_reducible (first | apply splitVC_d <;> intro _ | apply splitVC <;> intro _) | ((with_reducible refine And.intro ?_ ?_); focus (first | exact True.intro | omega | (simp only [InK, ne_eq, and_true, true_and]; omega) | trivial)) | (simp -dsimp only [↓RP, RQ, Nat.reduceMul, reduceIte, reduceCtorEq, Nat.reduceAdd, Nat.reduceEqDiff, Nat.reduceLT, Nat.reduceLeDiff, QW, Try.results71])))
  all_goals try (exfalso; omega)
  refine B_eq ?_
  rw [decide_eq_false]
  rintro ⟨j, hj, hb⟩
  rw [he j (by omega)] at hb; cases hb
theorem c68L (L : List Int) (v : Int) (hm : L.length ≤ 1000000) : Contract Try.prog 68 [lsv L, I v] (B (decide (v ∈ L))) := by
 have := c68 L.length (fun i => L.getD i 0) v hm
 rwa [show decide (anyI (vAt (fun i => L.getD i 0) v) L.length) = decide (v ∈ L) by rw [Bool.eq_iff_iff, decide_eq_true_eq, decide_eq_true_eq]; exact mem_any L v] at this
theorem c71L (L : List Int) (v : Int) (hm : L.length ≤ 1000000) : Contract Try.prog 71 [lsv L, I v] (B (decide (v ∈ L))) := by
 have := c71 L.length (fun i => L.getD i 0) v hm
 rwa [show decide (anyI (vAt (fun i => L.getD i 0) v) L.length) = decide (v ∈ L) by rw [Bool.eq_iff_iff, decide_eq_true_eq, decide_eq_true_eq]; exact mem_any L v] at this
theorem lnk_4 (x : Wd) (L : List Int) : (x.a ∈ L → (x.k = 1 ∧ x.b ∈ L) → lnk x L = [x.b, x.a]) ∧ (x.a ∈ L → ¬ (x.k = 1 ∧ x.b ∈ L) → lnk x L = [x.b]) ∧ (¬ x.a ∈ L → (x.k = 1 ∧ x.b ∈ L) → lnk x L = [x.a]) ∧ (¬ x.a ∈ L → ¬ (x.k = 1 ∧ x.b ∈ L) → lnk x L = []) := by
 unfold lnk
 refine ⟨fun h1 h2 => ?_, fun h1 h2 => ?_, fun h1 h2 => ?_, fun h1 h2 => ?_⟩
 ·rw [if_pos h1, if_pos h2]; rfl
 ·rw [if_pos h1, if_neg h2]; rfl
 ·rw [if_neg h1, if_pos h2]; rfl
 ·rw [if_neg h1, if_neg h2]; rfl
theorem lf1 (x : Int) : ∀ (i j : Nat), i < 1 → j < 1 → [SV.val (.int .i64 x)].getD (i + j) SV.top = SV.val (.int .i64 ([x].getD i 0)) := by
 intro i j hi hj
 obtain rfl : i = 0 := by omega
 obtain rfl : j = 0 := by omega
 rfl
theorem lf2 (x y : Int) : ∀ (i j : Nat), i < 2 → j < 1 → (if i < 1 then [SV.val (.int .i64 x)].getD (i + j) SV.top else [SV.val (.int .i64 y)].getD (i - 1 + j) SV.top) = SV.val (.int .i64 ([x, y].getD i 0)) := by
 intro i j hi hj
 obtain rfl : j = 0 := by omega
 have : i = 0 ∨ i = 1 := by omega
 rcases this with rfl | rfl <;> rfl
theorem c70 (x : Wd) (L : List Int) (hL : L.length ≤ 100000) : Contract Try.prog 70 [wag x, lsv L] (.arr true false (lnk x L).length 1 (fun i _ => .val (.int .i64 ((lnk x L).getD i 0)))) := by
 refine contract_of Try.func70 rfl (by kernel_rfl) follows (by kernel_rfl) _ _ (by rw [Try.ntmps70]; simp) (by simp [OldL, Old, QV, wag, lsv]) ?_
 have ⟨l1, l2, l3, l4⟩ := lnk_4 x L
 by_cases ha : x.a ∈ L
 ·have fa := decide_eq_true ha
  by_cases hk : x.k = 1
  ·have fk := decide_eq_true hk
   by_cases hb : x.b ∈ L
   ·have fb := decide_eq_true hb
    rw [l1 ha ⟨hk, hb⟩]
    unfold wag lsv
    (repeat' (first | with_reducible (first | apply splitVC_d <;> intro _ | apply splitVC <;> intro _) | ((with_reducible refine And.intro ?_ ?_); focus (first | exact True.intro | omega | (simp only [InK, ne_eq, and_true, true_and]; omega) | (and_intros <;> first | exact .inr trivial | exact Nat.le_refl _ | exact one1 _ | exact one5 _ _ _ _ _ | omega) | trivial)) | (simp -dsimp only [↓RP, RQ, Nat.reduceMul, reduceIte, reduceCtorEq, Nat.reduceAdd, Nat.reduceEqDiff, Nat.reduceLT, Nat.reduceLeDiff, lsv, QW, Try.results70])))
    refine callVC (c71L L x.a (by omega)) (by (simp -dsimp only [↓RP, RQ, Nat.reduceMul, reduceIte, reduceCtorEq, Nat.reduceAdd, Nat.reduceEqDiff, Nat.reduceLT, Nat.reduceLeDiff, QV, lsv, ints, I]); all_goals (try simp [QV])) (by (simp -dsimp only [↓RP, RQ, Nat.reduceMul, reduceIte, reduceCtorEq, Nat.reduceAdd, Nat.reduceEqDiff, Nat.reduceLT, Nat.reduceLeDiff, QX]); all_goals (try simp [QV])) ?_
    (repeat' (first | with_reducible (first | apply splitVC_d <;> intro _ | apply splitVC <;> intro _) | ((with_reducible refine And.intro ?_ ?_); focus (first | exact True.intro | omega | (simp only [InK, ne_eq, and_true, true_and]; omega) | (and_intros <;> first | exact .inr trivial | exact Nat.le_refl _ | exact one1 _ | exact one5 _ _ _ _ _ | omega) | trivial)) | (simp -dsimp only [↓RP, RQ, Nat.reduceMul, reduceIte, reduceCtorEq, Nat.reduceAdd, Nat.reduceEqDiff, Nat.reduceLT, Nat.reduceLeDiff, fa, fk, fb, lsv, QW, Try.results70])))
    refine callVC (c71L L x.b (by omega)) (by (simp -dsimp only [↓RP, RQ, Nat.reduceMul, reduceIte, reduceCtorEq, Nat.reduceAdd, Nat.reduceEqDiff, Nat.reduceLT, Nat.reduceLeDiff, QV, lsv, ints, I]); all_goals (try simp [QV])) (by (simp -dsimp only [↓RP, RQ, Nat.reduceMul, reduceIte, reduceCtorEq, Nat.reduceAdd, Nat.reduceEqDiff, Nat.reduceLT, Nat.reduceLeDiff, QX]); all_goals (try simp [QV])) ?_
    (repeat' (first | with_reducible (first | apply splitVC_d <;> intro _ | apply splitVC <;> intro _) | ((with_reducible refine And.intro ?_ ?_); focus (first | exact True.intro | omega | (simp only [InK, ne_eq, and_true, true_and]; omega) | (and_intros <;> first | exact .inr trivial | exact Nat.le_refl _ | exact one1 _ | exact one5 _ _ _ _ _ | omega) | trivial)) | (simp -dsimp only [↓RP, RQ, Nat.reduceMul, reduceIte, reduceCtorEq, Nat.reduceAdd, Nat.reduceEqDiff, Nat.reduceLT, Nat.reduceLeDiff, fa, fk, fb, lsv, QW, Try.results70])))
    all_goals first | exact lf1 _ | exact ⟨⟨.inr trivial, one1 _⟩, lf2 _ _⟩ | exact lf2 _ _ | skip
   ·have fb := decide_eq_false hb
    rw [l2 ha (fun h => hb h.2)]
    unfold wag lsv
    (repeat' (first | with_reducible (first | apply splitVC_d <;> intro _ | apply splitVC <;> intro _) | ((with_reducible refine And.intro ?_ ?_); focus (first | exact True.intro | omega | (simp only [InK, ne_eq, and_true, true_and]; omega) | (and_intros <;> first | exact .inr trivial | exact Nat.le_refl _ | exact one1 _ | exact one5 _ _ _ _ _ | omega) | trivial)) | (simp -dsimp only [↓RP, RQ, Nat.reduceMul, reduceIte, reduceCtorEq, Nat.reduceAdd, Nat.reduceEqDiff, Nat.reduceLT, Nat.reduceLeDiff, lsv, QW, Try.results70])))
    refine callVC (c71L L x.a (by omega)) (by (simp -dsimp only [↓RP, RQ, Nat.reduceMul, reduceIte, reduceCtorEq, Nat.reduceAdd, Nat.reduceEqDiff, Nat.reduceLT, Nat.reduceLeDiff, QV, lsv, ints, I]); all_goals (try simp [QV])) (by (simp -dsimp only [↓RP, RQ, Nat.reduceMul, reduceIte, reduceCtorEq, Nat.reduceAdd, Nat.reduceEqDiff, Nat.reduceLT, Nat.reduceLeDiff, QX]); all_goals (try simp [QV])) ?_
    (repeat' (first | with_reducible (first | apply splitVC_d <;> intro _ | apply splitVC <;> intro _) | ((with_reducible refine And.intro ?_ ?_); focus (first | exact True.intro | omega | (simp only [InK, ne_eq, and_true, true_and]; omega) | (and_intros <;> first | exact .inr trivial | exact Nat.le_refl _ | exact one1 _ | exact one5 _ _ _ _ _ | omega) | trivial)) | (simp -dsimp only [↓RP, RQ, Nat.reduceMul, reduceIte, reduceCtorEq, Nat.reduceAdd, Nat.reduceEqDiff, Nat.reduceLT, Nat.reduceLeDiff, fa, fk, fb, lsv, QW, Try.results70])))
    refine callVC (c71L L x.b (by omega)) (by (simp -dsimp only [↓RP, RQ, Nat.reduceMul, reduceIte, reduceCtorEq, Nat.reduceAdd, Nat.reduceEqDiff, Nat.reduceLT, Nat.reduceLeDiff, QV, lsv, ints, I]); all_goals (try simp [QV])) (by (simp -dsimp only [↓RP, RQ, Nat.reduceMul, reduceIte, reduceCtorEq, Nat.reduceAdd, Nat.reduceEqDiff, Nat.reduceLT, Nat.reduceLeDiff, QX]); all_goals (try simp [QV])) ?_
    (repeat' (first | with_reducible (first | apply splitVC_d <;> intro _ | apply splitVC <;> intro _) | ((with_reducible refine And.intro ?_ ?_); focus (first | exact True.intro | omega | (simp only [InK, ne_eq, and_true, true_and]; omega) | (and_intros <;> first | exact .inr trivial | exact Nat.le_refl _ | exact one1 _ | exact one5 _ _ _ _ _ | omega) | trivial)) | (simp -dsimp only [↓RP, RQ, Nat.reduceMul, reduceIte, reduceCtorEq, Nat.reduceAdd, Nat.reduceEqDiff, Nat.reduceLT, Nat.reduceLeDiff, fa, fk, fb, lsv, QW, Try.results70])))
    all_goals first | exact lf1 _ | exact ⟨⟨.inr trivial, one1 _⟩, lf2 _ _⟩ | exact lf2 _ _ | skip
  ·have fk := decide_eq_false hk
   rw [l2 ha (fun h => hk h.1)]
   unfold wag lsv
   (repeat' (first | with_reducible (first | apply splitVC_d <;> intro _ | apply splitVC <;> intro _) | ((with_reducible refine And.intro ?_ ?_); focus (first | exact True.intro | omega | (simp only [InK, ne_eq, and_true, true_and]; omega) | (and_intros <;> first | exact .inr trivial | exact Nat.le_refl _ | exact one1 _ | exact one5 _ _ _ _ _ | omega) | trivial)) | (simp -dsimp only [↓RP, RQ, Nat.reduceMul, reduceIte, reduceCtorEq, Nat.reduceAdd, Nat.reduceEqDiff, Nat.reduceLT, Nat.reduceLeDiff, lsv, QW, Try.results70])))
   refine callVC (c71L L x.a (by omega)) (by (simp -dsimp only [↓RP, RQ, Nat.reduceMul, reduceIte, reduceCtorEq, Nat.reduceAdd, Nat.reduceEqDiff, Nat.reduceLT, Nat.reduceLeDiff, QV, lsv, ints, I]); all_goals (try simp [QV])) (by (simp -dsimp only [↓RP, RQ, Nat.reduceMul, reduceIte, reduceCtorEq, Nat.reduceAdd, Nat.reduceEqDiff, Nat.reduceLT, Nat.reduceLeDiff, QX]); all_goals (try simp [QV])) ?_
   (repeat' (first | with_reducible (first | apply splitVC_d <;> intro _ | apply splitVC <;> intro _) | ((with_reducible refine And.intro ?_ ?_); focus (first | exact True.intro | omega | (simp only [InK, ne_eq, and_true, true_and]; omega) | (and_intros <;> first | exact .inr trivial | exact Nat.le_refl _ | exact one1 _ | exact one5 _ _ _ _ _ | omega) | trivial)) | (simp -dsimp only [↓RP, RQ, Nat.reduceMul, reduceIte, reduceCtorEq, Nat.reduceAdd, Nat.reduceEqDiff, Nat.reduceLT, Nat.reduceLeDiff, fa, fk, lsv, QW, Try.results70])))
   all_goals first | exact lf1 _ | exact ⟨⟨.inr trivial, one1 _⟩, lf2 _ _⟩ | exact lf2 _ _ | skip
 ·have fa := decide_eq_false ha
  by_cases hk : x.k = 1
  ·have fk := decide_eq_true hk
   by_cases hb : x.b ∈ L
   ·have fb := decide_eq_true hb
    rw [l3 ha ⟨hk, hb⟩]
    unfold wag lsv
    (repeat' (first | with_reducible (first | apply splitVC_d <;> intro _ | apply splitVC <;> intro _) | ((with_reducible refine And.intro ?_ ?_); focus (first | exact True.intro | omega | (simp only [InK, ne_eq, and_true, true_and]; omega) | (and_intros <;> first | exact .inr trivial | exact Nat.le_refl _ | exact one1 _ | exact one5 _ _ _ _ _ | omega) | trivial)) | (simp -dsimp only [↓RP, RQ, Nat.reduceMul, reduceIte, reduceCtorEq, Nat.reduceAdd, Nat.reduceEqDiff, Nat.reduceLT, Nat.reduceLeDiff, lsv, QW, Try.results70])))
    refine callVC (c71L L x.a (by omega)) (by (simp -dsimp only [↓RP, RQ, Nat.reduceMul, reduceIte, reduceCtorEq, Nat.reduceAdd, Nat.reduceEqDiff, Nat.reduceLT, Nat.reduceLeDiff, QV, lsv, ints, I]); all_goals (try simp [QV])) (by (simp -dsimp only [↓RP, RQ, Nat.reduceMul, reduceIte, reduceCtorEq, Nat.reduceAdd, Nat.reduceEqDiff, Nat.reduceLT, Nat.reduceLeDiff, QX]); all_goals (try simp [QV])) ?_
    (repeat' (first | with_reducible (first | apply splitVC_d <;> intro _ | apply splitVC <;> intro _) | ((with_reducible refine And.intro ?_ ?_); focus (first | exact True.intro | omega | (simp only [InK, ne_eq, and_true, true_and]; omega) | (and_intros <;> first | exact .inr trivial | exact Nat.le_refl _ | exact one1 _ | exact one5 _ _ _ _ _ | omega) | trivial)) | (simp -dsimp only [↓RP, RQ, Nat.reduceMul, reduceIte, reduceCtorEq, Nat.reduceAdd, Nat.reduceEqDiff, Nat.reduceLT, Nat.reduceLeDiff, fa, fk, fb, lsv, QW, Try.results70])))
    refine callVC (c71L L x.b (by omega)) (by (simp -dsimp only [↓RP, RQ, Nat.reduceMul, reduceIte, reduceCtorEq, Nat.reduceAdd, Nat.reduceEqDiff, Nat.reduceLT, Nat.reduceLeDiff, QV, lsv, ints, I]); all_goals (try simp [QV])) (by (simp -dsimp only [↓RP, RQ, Nat.reduceMul, reduceIte, reduceCtorEq, Nat.reduceAdd, Nat.reduceEqDiff, Nat.reduceLT, Nat.reduceLeDiff, QX]); all_goals (try simp [QV])) ?_
    (repeat' (first | with_reducible (first | apply splitVC_d <;> intro _ | apply splitVC <;> intro _) | ((with_reducible refine And.intro ?_ ?_); focus (first | exact True.intro | omega | (simp only [InK, ne_eq, and_true, true_and]; omega) | (and_intros <;> first | exact .inr trivial | exact Nat.le_refl _ | exact one1 _ | exact one5 _ _ _ _ _ | omega) | trivial)) | (simp -dsimp only [↓RP, RQ, Nat.reduceMul, reduceIte, reduceCtorEq, Nat.reduceAdd, Nat.reduceEqDiff, Nat.reduceLT, Nat.reduceLeDiff, fa, fk, fb, lsv, QW, Try.results70])))
    all_goals first | exact lf1 _ | exact ⟨⟨.inr trivial, one1 _⟩, lf2 _ _⟩ | exact lf2 _ _ | skip
   ·have fb := decide_eq_false hb
    rw [l4 ha (fun h => hb h.2)]
    unfold wag lsv
    (repeat' (first | with_reducible (first | apply splitVC_d <;> intro _ | apply splitVC <;> intro _) | ((with_reducible refine And.intro ?_ ?_); focus (first | exact True.intro | omega | (simp only [InK, ne_eq, and_true, true_and]; omega) | (and_intros <;> first | exact .inr trivial | exact Nat.le_refl _ | exact one1 _ | exact one5 _ _ _ _ _ | omega) | trivial)) | (simp -dsimp only [↓RP, RQ, Nat.reduceMul, reduceIte, reduceCtorEq, Nat.reduceAdd, Nat.reduceEqDiff, Nat.reduceLT, Nat.reduceLeDiff, lsv, QW, Try.results70])))
    refine callVC (c71L L x.a (by omega)) (by (simp -dsimp only [↓RP, RQ, Nat.reduceMul, reduceIte, reduceCtorEq, Nat.reduceAdd, Nat.reduceEqDiff, Nat.reduceLT, Nat.reduceLeDiff, QV, lsv, ints, I]); all_goals (try simp [QV])) (by (simp -dsimp only [↓RP, RQ, Nat.reduceMul, reduceIte, reduceCtorEq, Nat.reduceAdd, Nat.reduceEqDiff, Nat.reduceLT, Nat.reduceLeDiff, QX]); all_goals (try simp [QV])) ?_
    (repeat' (first | with_reducible (first | apply splitVC_d <;> intro _ | apply splitVC <;> intro _) | ((with_reducible refine And.intro ?_ ?_); focus (first | exact True.intro | omega | (simp only [InK, ne_eq, and_true, true_and]; omega) | (and_intros <;> first | exact .inr trivial | exact Nat.le_refl _ | exact one1 _ | exact one5 _ _ _ _ _ | omega) | trivial)) | (simp -dsimp only [↓RP, RQ, Nat.reduceMul, reduceIte, reduceCtorEq, Nat.reduceAdd, Nat.reduceEqDiff, Nat.reduceLT, Nat.reduceLeDiff, fa, fk, fb, lsv, QW, Try.results70])))
    refine callVC (c71L L x.b (by omega)) (by (simp -dsimp only [↓RP, RQ, Nat.reduceMul, reduceIte, reduceCtorEq, Nat.reduceAdd, Nat.reduceEqDiff, Nat.reduceLT, Nat.reduceLeDiff, QV, lsv, ints, I]); all_goals (try simp [QV])) (by (simp -dsimp only [↓RP, RQ, Nat.reduceMul, reduceIte, reduceCtorEq, Nat.reduceAdd, Nat.reduceEqDiff, Nat.reduceLT, Nat.reduceLeDiff, QX]); all_goals (try simp [QV])) ?_
    (repeat' (first | with_reducible (first | apply splitVC_d <;> intro _ | apply splitVC <;> intro _) | ((with_reducible refine And.intro ?_ ?_); focus (first | exact True.intro | omega | (simp only [InK, ne_eq, and_true, true_and]; omega) | (and_intros <;> first | exact .inr trivial | exact Nat.le_refl _ | exact one1 _ | exact one5 _ _ _ _ _ | omega) | trivial)) | (simp -dsimp only [↓RP, RQ, Nat.reduceMul, reduceIte, reduceCtorEq, Nat.reduceAdd, Nat.reduceEqDiff, Nat.reduceLT, Nat.reduceLeDiff, fa, fk, fb, lsv, QW, Try.results70])))
    all_goals first | exact lf1 _ | exact ⟨⟨.inr trivial, one1 _⟩, lf2 _ _⟩ | exact lf2 _ _ | skip
  ·have fk := decide_eq_false hk
   rw [l4 ha (fun h => hk h.1)]
   unfold wag lsv
   (repeat' (first | with_reducible (first | apply splitVC_d <;> intro _ | apply splitVC <;> intro _) | ((with_reducible refine And.intro ?_ ?_); focus (first | exact True.intro | omega | (simp only [InK, ne_eq, and_true, true_and]; omega) | (and_intros <;> first | exact .inr trivial | exact Nat.le_refl _ | exact one1 _ | exact one5 _ _ _ _ _ | omega) | trivial)) | (simp -dsimp only [↓RP, RQ, Nat.reduceMul, reduceIte, reduceCtorEq, Nat.reduceAdd, Nat.reduceEqDiff, Nat.reduceLT, Nat.reduceLeDiff, lsv, QW, Try.results70])))
   refine callVC (c71L L x.a (by omega)) (by (simp -dsimp only [↓RP, RQ, Nat.reduceMul, reduceIte, reduceCtorEq, Nat.reduceAdd, Nat.reduceEqDiff, Nat.reduceLT, Nat.reduceLeDiff, QV, lsv, ints, I]); all_goals (try simp [QV])) (by (simp -dsimp only [↓RP, RQ, Nat.reduceMul, reduceIte, reduceCtorEq, Nat.reduceAdd, Nat.reduceEqDiff, Nat.reduceLT, Nat.reduceLeDiff, QX]); all_goals (try simp [QV])) ?_
   (repeat' (first | with_reducible (first | apply splitVC_d <;> intro _ | apply splitVC <;> intro _) | ((with_reducible refine And.intro ?_ ?_); focus (first | exact True.intro | omega | (simp only [InK, ne_eq, and_true, true_and]; omega) | (and_intros <;> first | exact .inr trivial | exact Nat.le_refl _ | exact one1 _ | exact one5 _ _ _ _ _ | omega) | trivial)) | (simp -dsimp only [↓RP, RQ, Nat.reduceMul, reduceIte, reduceCtorEq, Nat.reduceAdd, Nat.reduceEqDiff, Nat.reduceLT, Nat.reduceLeDiff, fa, fk, lsv, QW, Try.results70])))
   all_goals first | exact lf1 _ | exact ⟨⟨.inr trivial, one1 _⟩, lf2 _ _⟩ | exact lf2 _ _ | skip
end Go.He
end
