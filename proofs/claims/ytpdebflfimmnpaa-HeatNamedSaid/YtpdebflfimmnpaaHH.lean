/- A part of the proof. -/
import Derived.Test.YtpdebflfimmnpaaHC
section
set_option linter.unusedSimpArgs false
set_option linter.unusedVariables false
set_option linter.defProp false
set_option maxRecDepth 100000
set_option maxHeartbeats 16000000
namespace Go.He
open Go.Proofs
open Go.Sx
def kdE (N : Int) (m : Nat) (w : Nat → Wd) (bad : Int) : Int := if ckR N m w ≠ 0 then ckR N m w else if bad ≠ 0 then bad else if (agrs w m N.toNat).length = 0 then 22 else 0
def kdA (N : Int) (m : Nat) (w : Nat → Wd) (bad : Int) (p : Nat → Bool) : Int := if kdE N m w bad = 0 then kindV ((agrs w m N.toNat).filter p).length (agrs w m N.toNat).length else 0
theorem kd_1 {N : Int} {m : Nat} {w : Nat → Wd} {bad : Int} {p : Nat → Bool} (h : ckR N m w ≠ 0) : kdE N m w bad = ckR N m w ∧ kdA N m w bad p = 0 := by
 have e : kdE N m w bad = ckR N m w := by unfold kdE; rw [if_pos h]
 exact ⟨e, by unfold kdA; rw [if_neg (by rw [e]; exact h)]⟩
theorem kd_2 {N : Int} {m : Nat} {w : Nat → Wd} {bad : Int} {p : Nat → Bool} (h : ckR N m w = 0) (hb : bad ≠ 0) : kdE N m w bad = bad ∧ kdA N m w bad p = 0 := by
 have e : kdE N m w bad = bad := by unfold kdE; rw [if_neg (fun h' => h' h), if_pos hb]
 exact ⟨e, by unfold kdA; rw [if_neg (by rw [e]; exact hb)]⟩
theorem kd_3 {n m : Nat} {w : Nat → Wd} {bad : Int} {p : Nat → Bool} (h : ckR n m w = 0) (hb : bad = 0) (h0 : (agrs w m n).length = 0) : kdE n m w bad = 22 ∧ kdA n m w bad p = 0 := by
 have e : kdE n m w bad = 22 := by unfold kdE; rw [if_neg (fun h' => h' h), if_neg (fun h' => h' hb), Int.toNat_natCast, if_pos h0]
 exact ⟨e, by unfold kdA; rw [if_neg (by rw [e]; decide)]⟩
theorem kd_4 {n m : Nat} {w : Nat → Wd} {bad : Int} {p : Nat → Bool} (h : ckR n m w = 0) (hb : bad = 0) (h0 : (agrs w m n).length ≠ 0) : kdE n m w bad = 0 ∧ kdA n m w bad p = kindV ((agrs w m n).filter p).length (agrs w m n).length := by
 have e : kdE n m w bad = 0 := by unfold kdE; rw [if_neg (fun h' => h' h), if_neg (fun h' => h' hb), Int.toNat_natCast, if_neg h0]
 exact ⟨e, by unfold kdA; rw [if_pos e, Int.toNat_natCast]⟩
theorem f22 : decide ((22 : Int) = 0) = false := rfl
def bdW (N : Int) (x : Wd) : Int := if okW N x then 0 else 2
def bdP (N r : Int) : Int := if 0 ≤ r ∧ r < N then 0 else 3
def bdQ (N r p : Int) : Int := if 0 ≤ r ∧ r < N then if 1 ≤ p ∧ p ≤ N then 0 else 2 else 3
def pW (n : Nat) (x : Wd) (t : Nat) : Bool := decide (says x (fun y => Dg n t y.toNat))
def pQ (n : Nat) (r p : Int) (t : Nat) : Bool := decide (Dg n t r.toNat ≤ p)
theorem flt_len (q : Nat → Bool) (L : List Nat) : (lst (fun i => q (L.getD i 0)) L.length).length = (L.filter q).length := by
 have := congrArg List.length (lst_map q L L.length (Nat.le_refl _))
 rwa [List.length_map, List.take_length] at this
theorem c73 (M : Nat) (u : Nat → Nat → Int) (g : Nat) (fs caps : List SV) (hs : OldL fs) (ho : OldL caps) (b : Nat → Bool) (hm : M ≤ 100000) (hg : ∀ i, i < M → Contract Try.prog g (fs ++ .agg (pl (u i)) :: caps) (B (b i))) : Contract Try.prog 73 [arrs M u, .fn (.func g) fs caps] (I (kindV (lst b M).length M)) := by
 refine contract_of Try.func73 rfl (by kernel_rfl) follows (by kernel_rfl) _ _ (by rw [Try.ntmps73]; simp) (by simp [OldL, Old, QV, arrs, hs, ho]) ?_
 unfold arrs I
 have hl := lst_len b M
 (repeat' (first | with_reducible (first | apply splitVC_d <;> intro _ | apply splitVC <;> intro _) | ((with_reducible refine And.intro ?_ ?_); focus (first | exact True.intro | omega | (simp only [InK, ne_eq, and_true, true_and]; omega) | trivial)) | (simp -dsimp only [↓RP, RQ, Nat.reduceMul, reduceIte, reduceCtorEq, Nat.reduceAdd, Nat.reduceEqDiff, Nat.reduceLT, Nat.reduceLeDiff, QW, Try.results73])))
 refine callVC (c86 M u g fs caps hs ho b hm hg) (by (simp -dsimp only [↓RP, RQ, Nat.reduceMul, reduceIte, reduceCtorEq, Nat.reduceAdd, Nat.reduceEqDiff, Nat.reduceLT, Nat.reduceLeDiff, QV, arrs]); all_goals (try simp [QV, Go.Sx.Sub, Go.Sx.SubL, subL_refl fs hs, subL_refl caps ho])) (by (simp -dsimp only [↓RP, RQ, Nat.reduceMul, reduceIte, reduceCtorEq, Nat.reduceAdd, Nat.reduceEqDiff, Nat.reduceLT, Nat.reduceLeDiff, QX]); all_goals (try simp [QV])) ?_
 (repeat' (first | with_reducible (first | apply splitVC_d <;> intro _ | apply splitVC <;> intro _) | ((with_reducible refine And.intro ?_ ?_); focus (first | exact True.intro | omega | (simp only [InK, ne_eq, and_true, true_and]; omega) | trivial)) | (simp -dsimp only [↓RP, RQ, Nat.reduceMul, reduceIte, reduceCtorEq, Nat.reduceAdd, Nat.reduceEqDiff, Nat.reduceLT, Nat.reduceLeDiff, QW, Try.results73])))
 ·rename_i h
  refine I_eq ?_
  unfold kindV; rw [if_pos (by omega)]
 ·rename_i h h2
  refine I_eq ?_
  unfold kindV; rw [if_neg (by omega), if_pos (by omega)]
 ·rename_i h h2
  refine I_eq ?_
  unfold kindV; rw [if_neg (by omega), if_neg (by omega)]
theorem c74 (f : Nat → Int) (x : Wd) (ha : 0 ≤ x.a ∧ x.a < 5) (hb : 0 ≤ x.b ∧ x.b < 5) : Contract Try.prog 74 [psv f, .ref false 3 (fun j => wf x j)] (B (decide (says x (fun y => f y.toNat)))) := by
 refine contract_of Try.func74 rfl (by kernel_rfl) follows (by kernel_rfl) _ _ (by rw [Try.ntmps74]; simp) (by simp [OldL, Old, QV, psv]) ?_
 unfold psv B
 (repeat' (first | with_reducible (first | apply splitVC_d <;> intro _ | apply splitVC <;> intro _) | ((with_reducible refine And.intro ?_ ?_); focus (first | exact True.intro | omega | (simp only [InK, ne_eq, and_true, true_and]; omega) | trivial)) | (with_reducible refine callVC (c75 f x ha hb) ?_ ?_ ?_; iterate 2 focus ((simp -dsimp only [↓RP, RQ, Nat.reduceMul, reduceIte, reduceCtorEq, Nat.reduceAdd, Nat.reduceEqDiff, Nat.reduceLT, Nat.reduceLeDiff, QX]); all_goals (try simp [QV, Go.Sx.Sub, Go.Sx.SubL]); all_goals (try exact lit2 _ _))) | (simp -dsimp only [↓RP, RQ, Nat.reduceMul, reduceIte, reduceCtorEq, Nat.reduceAdd, Nat.reduceEqDiff, Nat.reduceLT, Nat.reduceLeDiff, wag, QW, Try.results74])))
theorem c78 (f : Nat → Int) (r p : Int) (h0 : 0 ≤ r) (h1 : r < 5) : Contract Try.prog 78 [psv f, .ref false 1 (fun _ => .val (.int .i64 r)), .ref false 1 (fun _ => .val (.int .i64 p))] (B (decide (f r.toNat ≤ p))) := by
 refine contract_of Try.func78 rfl (by kernel_rfl) follows (by kernel_rfl) _ _ (by rw [Try.ntmps78]; simp) (by simp [OldL, Old, QV, psv]) ?_
 unfold psv B
 (repeat' (first | with_reducible (first | apply splitVC_d <;> intro _ | apply splitVC <;> intro _) | ((with_reducible refine And.intro ?_ ?_); focus (first | exact True.intro | omega | (simp only [InK, ne_eq, and_true, true_and]; omega) | trivial)) | (simp -dsimp only [↓RP, RQ, Nat.reduceMul, reduceIte, reduceCtorEq, Nat.reduceAdd, Nat.reduceEqDiff, Nat.reduceLT, Nat.reduceLeDiff, pl_get f (show r.toNat < 5 by omega), QW, Try.results78])))
 all_goals first | omega | skip
theorem c32 (N : Int) (m : Nat) (w : Nat → Wd) (hm : m ≤ 1000000) (x : Wd) : Contract Try.prog 32 [rsv N m w, wag x] (.tup [I (kdA N m w (bdW N x) (pW N.toNat x)), I (kdE N m w (bdW N x))]) := by
 refine contract_of Try.func32 rfl (by kernel_rfl) follows (by kernel_rfl) _ _ (by rw [Try.ntmps32]; simp) (by simp [OldL, Old, QV, rsv, wag, I]) ?_
 by_cases he : ckR N m w = 0
 ·have ⟨n2, n5, m12, _⟩ := ckR_ok he
  obtain ⟨n, rfl⟩ : ∃ n : Nat, N = n := ⟨N.toNat, by omega⟩
  have hw := ckR_fit he
  have hal := agrs_len (w := w) (m := m) (n := n) (by omega)
  rw [Int.toNat_natCast]
  by_cases hk : okW n x
  ·have hb : bdW n x = 0 := by unfold bdW; rw [if_pos hk]
   have fk := decide_eq_true hk
   by_cases h0 : (agrs w m n).length = 0
   ·rw [(kd_3 (p := fun _ => true) he hb h0).1, (kd_3 he hb h0).2]
    unfold rsv wag I
    (repeat' (first | with_reducible (first | apply splitVC_d <;> intro _ | apply splitVC <;> intro _) | ((with_reducible refine And.intro ?_ ?_); focus (first | exact True.intro | omega | (simp only [InK, ne_eq, and_true, true_and]; omega) | trivial)) | (simp -dsimp only [↓RP, RQ, Nat.reduceMul, reduceIte, reduceCtorEq, Nat.reduceAdd, Nat.reduceEqDiff, Nat.reduceLT, Nat.reduceLeDiff, wag, QW, Try.results32])))
    refine callVC_old (c56 n m w hm he) (by (simp -dsimp only [↓RP, RQ, Nat.reduceMul, reduceIte, reduceCtorEq, Nat.reduceAdd, Nat.reduceEqDiff, Nat.reduceLT, Nat.reduceLeDiff, QX]); all_goals (try simp [QV, Go.Sx.Sub, Go.Sx.SubL]); all_goals (try exact lit2 _ _)) ?_
    (repeat' (first | with_reducible (first | apply splitVC_d <;> intro _ | apply splitVC <;> intro _) | ((with_reducible refine And.intro ?_ ?_); focus (first | exact True.intro | omega | (simp only [InK, ne_eq, and_true, true_and]; omega) | trivial)) | (simp -dsimp only [↓RP, RQ, Nat.reduceMul, reduceIte, reduceCtorEq, Nat.reduceAdd, Nat.reduceEqDiff, Nat.reduceLT, Nat.reduceLeDiff, wag, QW, Try.results32])))
    refine callVC (c54 n n2 n5 m w x) ?_ ?_ ?_; iterate 2 focus ((simp -dsimp only [↓RP, RQ, Nat.reduceMul, reduceIte, reduceCtorEq, Nat.reduceAdd, Nat.reduceEqDiff, Nat.reduceLT, Nat.reduceLeDiff, QX]); all_goals (try simp [QV, Go.Sx.Sub, Go.Sx.SubL]); all_goals (try exact lit2 _ _))
    (repeat' (first | with_reducible (first | apply splitVC_d <;> intro _ | apply splitVC <;> intro _) | ((with_reducible refine And.intro ?_ ?_); focus (first | exact True.intro | omega | (simp only [InK, ne_eq, and_true, true_and]; omega) | trivial)) | (simp -dsimp only [↓RP, RQ, Nat.reduceMul, reduceIte, reduceCtorEq, Nat.reduceAdd, Nat.reduceEqDiff, Nat.reduceLT, Nat.reduceLeDiff, fk, wag, QW, Try.results32])))
    refine callVC (c72 n (by omega) (by omega) m hm w hw) ?_ ?_ ?_; iterate 2 focus ((simp -dsimp only [↓RP, RQ, Nat.reduceMul, reduceIte, reduceCtorEq, Nat.reduceAdd, Nat.reduceEqDiff, Nat.reduceLT, Nat.reduceLeDiff, QX]); all_goals (try simp [QV, Go.Sx.Sub, Go.Sx.SubL]); all_goals (try exact lit2 _ _))
    (repeat' (first | with_reducible (first | apply splitVC_d <;> intro _ | apply splitVC <;> intro _) | ((with_reducible refine And.intro ?_ ?_); focus (first | exact True.intro | omega | (simp only [InK, ne_eq, and_true, true_and]; omega) | trivial)) | (simp -dsimp only [↓RP, RQ, Nat.reduceMul, reduceIte, reduceCtorEq, Nat.reduceAdd, Nat.reduceEqDiff, Nat.reduceLT, Nat.reduceLeDiff, h0, f22, wag, QW, Try.results32])))
   ·rw [(kd_4 (p := fun _ => true) he hb h0).1, (kd_4 he hb h0).2]
    unfold rsv wag I
    (repeat' (first | with_reducible (first | apply splitVC_d <;> intro _ | apply splitVC <;> intro _) | ((with_reducible refine And.intro ?_ ?_); focus (first | exact True.intro | omega | (simp only [InK, ne_eq, and_true, true_and]; omega) | trivial)) | (simp -dsimp only [↓RP, RQ, Nat.reduceMul, reduceIte, reduceCtorEq, Nat.reduceAdd, Nat.reduceEqDiff, Nat.reduceLT, Nat.reduceLeDiff, wag, QW, Try.results32])))
    refine callVC_old (c56 n m w hm he) (by (simp -dsimp only [↓RP, RQ, Nat.reduceMul, reduceIte, reduceCtorEq, Nat.reduceAdd, Nat.reduceEqDiff, Nat.reduceLT, Nat.reduceLeDiff, QX]); all_goals (try simp [QV, Go.Sx.Sub, Go.Sx.SubL]); all_goals (try exact lit2 _ _)) ?_
    (repeat' (first | with_reducible (first | apply splitVC_d <;> intro _ | apply splitVC <;> intro _) | ((with_reducible refine And.intro ?_ ?_); focus (first | exact True.intro | omega | (simp only [InK, ne_eq, and_true, true_and]; omega) | trivial)) | (simp -dsimp only [↓RP, RQ, Nat.reduceMul, reduceIte, reduceCtorEq, Nat.reduceAdd, Nat.reduceEqDiff, Nat.reduceLT, Nat.reduceLeDiff, wag, QW, Try.results32])))
    refine callVC (c54 n n2 n5 m w x) ?_ ?_ ?_; iterate 2 focus ((simp -dsimp only [↓RP, RQ, Nat.reduceMul, reduceIte, reduceCtorEq, Nat.reduceAdd, Nat.reduceEqDiff, Nat.reduceLT, Nat.reduceLeDiff, QX]); all_goals (try simp [QV, Go.Sx.Sub, Go.Sx.SubL]); all_goals (try exact lit2 _ _))
    (repeat' (first | with_reducible (first | apply splitVC_d <;> intro _ | apply splitVC <;> intro _) | ((with_reducible refine And.intro ?_ ?_); focus (first | exact True.intro | omega | (simp only [InK, ne_eq, and_true, true_and]; omega) | trivial)) | (simp -dsimp only [↓RP, RQ, Nat.reduceMul, reduceIte, reduceCtorEq, Nat.reduceAdd, Nat.reduceEqDiff, Nat.reduceLT, Nat.reduceLeDiff, fk, wag, QW, Try.results32])))
    refine callVC (c72 n (by omega) (by omega) m hm w hw) ?_ ?_ ?_; iterate 2 focus ((simp -dsimp only [↓RP, RQ, Nat.reduceMul, reduceIte, reduceCtorEq, Nat.reduceAdd, Nat.reduceEqDiff, Nat.reduceLT, Nat.reduceLeDiff, QX]); all_goals (try simp [QV, Go.Sx.Sub, Go.Sx.SubL]); all_goals (try exact lit2 _ _))
    (repeat' (first | with_reducible (first | apply splitVC_d <;> intro _ | apply splitVC <;> intro _) | ((with_reducible refine And.intro ?_ ?_); focus (first | exact True.intro | omega | (simp only [InK, ne_eq, and_true, true_and]; omega) | trivial)) | (simp -dsimp only [↓RP, RQ, Nat.reduceMul, reduceIte, reduceCtorEq, Nat.reduceAdd, Nat.reduceEqDiff, Nat.reduceLT, Nat.reduceLeDiff, h0, f22, wag, QW, Try.results32])))
    refine callVC (c73 (agrs w m n).length (fun i j => Dg n ((agrs w m n).getD i 0) j) 74 [] [.ref false 3 (fun j => wf x j)] trivial (by simp [OldL, Old, QV]) (fun i => pW n x ((agrs w m n).getD i 0)) (by omega) fun i _ => c74 _ x ⟨hk.1.1, by have := hk.1.2; omega⟩ ⟨hk.2.1.1, by have := hk.2.1.2; omega⟩) (by (simp -dsimp only [↓RP, RQ, Nat.reduceMul, reduceIte, reduceCtorEq, Nat.reduceAdd, Nat.reduceEqDiff, Nat.reduceLT, Nat.reduceLeDiff, QV, arrs]); all_goals (try simp [QV, Go.Sx.Sub, Go.Sx.SubL])) (by (simp -dsimp only [↓RP, RQ, Nat.reduceMul, reduceIte, reduceCtorEq, Nat.reduceAdd, Nat.reduceEqDiff, Nat.reduceLT, Nat.reduceLeDiff, QX]); all_goals (try simp [QV])) ?_
    rw [flt_len]
    (repeat' (first | with_reducible (first | apply splitVC_d <;> intro _ | apply splitVC <;> intro _) | ((with_reducible refine And.intro ?_ ?_); focus (first | exact True.intro | omega | (simp only [InK, ne_eq, and_true, true_and]; omega) | trivial)) | (simp -dsimp only [↓RP, RQ, Nat.reduceMul, reduceIte, reduceCtorEq, Nat.reduceAdd, Nat.reduceEqDiff, Nat.reduceLT, Nat.reduceLeDiff, wag, QW, Try.results32])))
  ·have hb : bdW n x = 2 := by unfold bdW; rw [if_neg hk]
   have fk := decide_eq_false hk
   rw [(kd_2 (p := fun _ => true) he (by omega)).1, (kd_2 he (by omega)).2, hb]
   unfold rsv wag I
   (repeat' (first | with_reducible (first | apply splitVC_d <;> intro _ | apply splitVC <;> intro _) | ((with_reducible refine And.intro ?_ ?_); focus (first | exact True.intro | omega | (simp only [InK, ne_eq, and_true, true_and]; omega) | trivial)) | (simp -dsimp only [↓RP, RQ, Nat.reduceMul, reduceIte, reduceCtorEq, Nat.reduceAdd, Nat.reduceEqDiff, Nat.reduceLT, Nat.reduceLeDiff, wag, QW, Try.results32])))
   refine callVC_old (c56 n m w hm he) (by (simp -dsimp only [↓RP, RQ, Nat.reduceMul, reduceIte, reduceCtorEq, Nat.reduceAdd, Nat.reduceEqDiff, Nat.reduceLT, Nat.reduceLeDiff, QX]); all_goals (try simp [QV, Go.Sx.Sub, Go.Sx.SubL]); all_goals (try exact lit2 _ _)) ?_
   (repeat' (first | with_reducible (first | apply splitVC_d <;> intro _ | apply splitVC <;> intro _) | ((with_reducible refine And.intro ?_ ?_); focus (first | exact True.intro | omega | (simp only [InK, ne_eq, and_true, true_and]; omega) | trivial)) | (simp -dsimp only [↓RP, RQ, Nat.reduceMul, reduceIte, reduceCtorEq, Nat.reduceAdd, Nat.reduceEqDiff, Nat.reduceLT, Nat.reduceLeDiff, wag, QW, Try.results32])))
   refine callVC (c54 n n2 n5 m w x) ?_ ?_ ?_; iterate 2 focus ((simp -dsimp only [↓RP, RQ, Nat.reduceMul, reduceIte, reduceCtorEq, Nat.reduceAdd, Nat.reduceEqDiff, Nat.reduceLT, Nat.reduceLeDiff, QX]); all_goals (try simp [QV, Go.Sx.Sub, Go.Sx.SubL]); all_goals (try exact lit2 _ _))
   (repeat' (first | with_reducible (first | apply splitVC_d <;> intro _ | apply splitVC <;> intro _) | ((with_reducible refine And.intro ?_ ?_); focus (first | exact True.intro | omega | (simp only [InK, ne_eq, and_true, true_and]; omega) | trivial)) | (simp -dsimp only [↓RP, RQ, Nat.reduceMul, reduceIte, reduceCtorEq, Nat.reduceAdd, Nat.reduceEqDiff, Nat.reduceLT, Nat.reduceLeDiff, fk, wag, QW, Try.results32])))
 ·rw [(kd_1 (p := fun _ => true) he).1, (kd_1 he).2]
  have hd : (!decide (ckR N m w = 0)) = true := by simp [he]
  unfold rsv wag I
  (repeat' (first | with_reducible (first | apply splitVC_d <;> intro _ | apply splitVC <;> intro _) | ((with_reducible refine And.intro ?_ ?_); focus (first | exact True.intro | omega | (simp only [InK, ne_eq, and_true, true_and]; omega) | trivial)) | (simp -dsimp only [↓RP, RQ, Nat.reduceMul, reduceIte, reduceCtorEq, Nat.reduceAdd, Nat.reduceEqDiff, Nat.reduceLT, Nat.reduceLeDiff, hd, wag, QW, Try.results32])))
  refine callVC_old (c56e N m w hm he) (by (simp -dsimp only [↓RP, RQ, Nat.reduceMul, reduceIte, reduceCtorEq, Nat.reduceAdd, Nat.reduceEqDiff, Nat.reduceLT, Nat.reduceLeDiff, QX]); all_goals (try simp [QV, Go.Sx.Sub, Go.Sx.SubL]); all_goals (try exact lit2 _ _)) ?_
  (repeat' (first | with_reducible (first | apply splitVC_d <;> intro _ | apply splitVC <;> intro _) | ((with_reducible refine And.intro ?_ ?_); focus (first | exact True.intro | omega | (simp only [InK, ne_eq, and_true, true_and]; omega) | trivial)) | (simp -dsimp only [↓RP, RQ, Nat.reduceMul, reduceIte, reduceCtorEq, Nat.reduceAdd, Nat.reduceEqDiff, Nat.reduceLT, Nat.reduceLeDiff, hd, wag, QW, Try.results32])))
theorem c36 (N : Int) (m : Nat) (w : Nat → Wd) (hm : m ≤ 1000000) (r p : Int) : Contract Try.prog 36 [rsv N m w, I r, I p] (.tup [I (kdA N m w (bdQ N r p) (pQ N.toNat r p)), I (kdE N m w (bdQ N r p))]) := by
 refine contract_of Try.func36 rfl (by kernel_rfl) follows (by kernel_rfl) _ _ (by rw [Try.ntmps36]; simp) (by simp [OldL, Old, QV, rsv, wag, I]) ?_
 by_cases he : ckR N m w = 0
 ·have ⟨n2, n5, m12, _⟩ := ckR_ok he
  obtain ⟨n, rfl⟩ : ∃ n : Nat, N = n := ⟨N.toNat, by omega⟩
  have hw := ckR_fit he
  have hal := agrs_len (w := w) (m := m) (n := n) (by omega)
  rw [Int.toNat_natCast]
  by_cases hr : 0 ≤ r ∧ r < n
  ·have fr := decide_eq_true (show 0 ≤ r ∧ r ≤ (n : Int) - 1 by omega)
   by_cases hp : 1 ≤ p ∧ p ≤ n
   ·have hb : bdQ n r p = 0 := by unfold bdQ; rw [if_pos hr, if_pos hp]
    have fp := decide_eq_true hp
    by_cases h0 : (agrs w m n).length = 0
    ·rw [(kd_3 (p := fun _ => true) he hb h0).1, (kd_3 he hb h0).2]
     unfold rsv I
     (repeat' (first | with_reducible (first | apply splitVC_d <;> intro _ | apply splitVC <;> intro _) | ((with_reducible refine And.intro ?_ ?_); focus (first | exact True.intro | omega | (simp only [InK, ne_eq, and_true, true_and]; omega) | trivial)) | (simp -dsimp only [↓RP, RQ, Nat.reduceMul, reduceIte, reduceCtorEq, Nat.reduceAdd, Nat.reduceEqDiff, Nat.reduceLT, Nat.reduceLeDiff, wag, QW, Try.results36])))
     refine callVC_old (c56 n m w hm he) (by (simp -dsimp only [↓RP, RQ, Nat.reduceMul, reduceIte, reduceCtorEq, Nat.reduceAdd, Nat.reduceEqDiff, Nat.reduceLT, Nat.reduceLeDiff, QX]); all_goals (try simp [QV, Go.Sx.Sub, Go.Sx.SubL]); all_goals (try exact lit2 _ _)) ?_
     (repeat' (first | with_reducible (first | apply splitVC_d <;> intro _ | apply splitVC <;> intro _) | ((with_reducible refine And.intro ?_ ?_); focus (first | exact True.intro | omega | (simp only [InK, ne_eq, and_true, true_and]; omega) | trivial)) | (simp -dsimp only [↓RP, RQ, Nat.reduceMul, reduceIte, reduceCtorEq, Nat.reduceAdd, Nat.reduceEqDiff, Nat.reduceLT, Nat.reduceLeDiff, wag, QW, Try.results36])))
     refine callVC (c51_1 r 0 ((n : Int) - 1)) ?_ ?_ ?_; iterate 2 focus ((simp -dsimp only [↓RP, RQ, Nat.reduceMul, reduceIte, reduceCtorEq, Nat.reduceAdd, Nat.reduceEqDiff, Nat.reduceLT, Nat.reduceLeDiff, QX]); all_goals (try simp [QV, Go.Sx.Sub, Go.Sx.SubL]); all_goals (try exact lit2 _ _))
     (repeat' (first | with_reducible (first | apply splitVC_d <;> intro _ | apply splitVC <;> intro _) | ((with_reducible refine And.intro ?_ ?_); focus (first | exact True.intro | omega | (simp only [InK, ne_eq, and_true, true_and]; omega) | trivial)) | (simp -dsimp only [↓RP, RQ, Nat.reduceMul, reduceIte, reduceCtorEq, Nat.reduceAdd, Nat.reduceEqDiff, Nat.reduceLT, Nat.reduceLeDiff, fr, wag, QW, Try.results36])))
     refine callVC (c51_1 p 1 n) ?_ ?_ ?_; iterate 2 focus ((simp -dsimp only [↓RP, RQ, Nat.reduceMul, reduceIte, reduceCtorEq, Nat.reduceAdd, Nat.reduceEqDiff, Nat.reduceLT, Nat.reduceLeDiff, QX]); all_goals (try simp [QV, Go.Sx.Sub, Go.Sx.SubL]); all_goals (try exact lit2 _ _))
     (repeat' (first | with_reducible (first | apply splitVC_d <;> intro _ | apply splitVC <;> intro _) | ((with_reducible refine And.intro ?_ ?_); focus (first | exact True.intro | omega | (simp only [InK, ne_eq, and_true, true_and]; omega) | trivial)) | (simp -dsimp only [↓RP, RQ, Nat.reduceMul, reduceIte, reduceCtorEq, Nat.reduceAdd, Nat.reduceEqDiff, Nat.reduceLT, Nat.reduceLeDiff, fr, fp, wag, QW, Try.results36])))
     refine callVC (c72 n (by omega) (by omega) m hm w hw) ?_ ?_ ?_; iterate 2 focus ((simp -dsimp only [↓RP, RQ, Nat.reduceMul, reduceIte, reduceCtorEq, Nat.reduceAdd, Nat.reduceEqDiff, Nat.reduceLT, Nat.reduceLeDiff, QX]); all_goals (try simp [QV, Go.Sx.Sub, Go.Sx.SubL]); all_goals (try exact lit2 _ _))
     (repeat' (first | with_reducible (first | apply splitVC_d <;> intro _ | apply splitVC <;> intro _) | ((with_reducible refine And.intro ?_ ?_); focus (first | exact True.intro | omega | (simp only [InK, ne_eq, and_true, true_and]; omega) | trivial)) | (simp -dsimp only [↓RP, RQ, Nat.reduceMul, reduceIte, reduceCtorEq, Nat.reduceAdd, Nat.reduceEqDiff, Nat.reduceLT, Nat.reduceLeDiff, h0, f22, wag, QW, Try.results36])))
    ·rw [(kd_4 (p := fun _ => true) he hb h0).1, (kd_4 he hb h0).2]
     unfold rsv I
     (repeat' (first | with_reducible (first | apply splitVC_d <;> intro _ | apply splitVC <;> intro _) | ((with_reducible refine And.intro ?_ ?_); focus (first | exact True.intro | omega | (simp only [InK, ne_eq, and_true, true_and]; omega) | trivial)) | (simp -dsimp only [↓RP, RQ, Nat.reduceMul, reduceIte, reduceCtorEq, Nat.reduceAdd, Nat.reduceEqDiff, Nat.reduceLT, Nat.reduceLeDiff, wag, QW, Try.results36])))
     refine callVC_old (c56 n m w hm he) (by (simp -dsimp only [↓RP, RQ, Nat.reduceMul, reduceIte, reduceCtorEq, Nat.reduceAdd, Nat.reduceEqDiff, Nat.reduceLT, Nat.reduceLeDiff, QX]); all_goals (try simp [QV, Go.Sx.Sub, Go.Sx.SubL]); all_goals (try exact lit2 _ _)) ?_
     (repeat' (first | with_reducible (first | apply splitVC_d <;> intro _ | apply splitVC <;> intro _) | ((with_reducible refine And.intro ?_ ?_); focus (first | exact True.intro | omega | (simp only [InK, ne_eq, and_true, true_and]; omega) | trivial)) | (simp -dsimp only [↓RP, RQ, Nat.reduceMul, reduceIte, reduceCtorEq, Nat.reduceAdd, Nat.reduceEqDiff, Nat.reduceLT, Nat.reduceLeDiff, wag, QW, Try.results36])))
     refine callVC (c51_1 r 0 ((n : Int) - 1)) ?_ ?_ ?_; iterate 2 focus ((simp -dsimp only [↓RP, RQ, Nat.reduceMul, reduceIte, reduceCtorEq, Nat.reduceAdd, Nat.reduceEqDiff, Nat.reduceLT, Nat.reduceLeDiff, QX]); all_goals (try simp [QV, Go.Sx.Sub, Go.Sx.SubL]); all_goals (try exact lit2 _ _))
     (repeat' (first | with_reducible (first | apply splitVC_d <;> intro _ | apply splitVC <;> intro _) | ((with_reducible refine And.intro ?_ ?_); focus (first | exact True.intro | omega | (simp only [InK, ne_eq, and_true, true_and]; omega) | trivial)) | (simp -dsimp only [↓RP, RQ, Nat.reduceMul, reduceIte, reduceCtorEq, Nat.reduceAdd, Nat.reduceEqDiff, Nat.reduceLT, Nat.reduceLeDiff, fr, wag, QW, Try.results36])))
     refine callVC (c51_1 p 1 n) ?_ ?_ ?_; iterate 2 focus ((simp -dsimp only [↓RP, RQ, Nat.reduceMul, reduceIte, reduceCtorEq, Nat.reduceAdd, Nat.reduceEqDiff, Nat.reduceLT, Nat.reduceLeDiff, QX]); all_goals (try simp [QV, Go.Sx.Sub, Go.Sx.SubL]); all_goals (try exact lit2 _ _))
     (repeat' (first | with_reducible (first | apply splitVC_d <;> intro _ | apply splitVC <;> intro _) | ((with_reducible refine And.intro ?_ ?_); focus (first | exact True.intro | omega | (simp only [InK, ne_eq, and_true, true_and]; omega) | trivial)) | (simp -dsimp only [↓RP, RQ, Nat.reduceMul, reduceIte, reduceCtorEq, Nat.reduceAdd, Nat.reduceEqDiff, Nat.reduceLT, Nat.reduceLeDiff, fr, fp, wag, QW, Try.results36])))
     refine callVC (c72 n (by omega) (by omega) m hm w hw) ?_ ?_ ?_; iterate 2 focus ((simp -dsimp only [↓RP, RQ, Nat.reduceMul, reduceIte, reduceCtorEq, Nat.reduceAdd, Nat.reduceEqDiff, Nat.reduceLT, Nat.reduceLeDiff, QX]); all_goals (try simp [QV, Go.Sx.Sub, Go.Sx.SubL]); all_goals (try exact lit2 _ _))
     (repeat' (first | with_reducible (first | apply splitVC_d <;> intro _ | apply splitVC <;> intro _) | ((with_reducible refine And.intro ?_ ?_); focus (first | exact True.intro | omega | (simp only [InK, ne_eq, and_true, true_and]; omega) | trivial)) | (simp -dsimp only [↓RP, RQ, Nat.reduceMul, reduceIte, reduceCtorEq, Nat.reduceAdd, Nat.reduceEqDiff, Nat.reduceLT, Nat.reduceLeDiff, h0, f22, wag, QW, Try.results36])))
     refine callVC (c73 (agrs w m n).length (fun i j => Dg n ((agrs w m n).getD i 0) j) 78 [] [.ref false 1 (fun _ => .val (.int .i64 r)), .ref false 1 (fun _ => .val (.int .i64 p))] trivial (by simp [OldL, Old, QV]) (fun i => pQ n r p ((agrs w m n).getD i 0)) (by omega) fun i _ => c78 _ r p hr.1 (by omega)) (by (simp -dsimp only [↓RP, RQ, Nat.reduceMul, reduceIte, reduceCtorEq, Nat.reduceAdd, Nat.reduceEqDiff, Nat.reduceLT, Nat.reduceLeDiff, QV, arrs]); all_goals (try simp [QV, Go.Sx.Sub, Go.Sx.SubL])) (by (simp -dsimp only [↓RP, RQ, Nat.reduceMul, reduceIte, reduceCtorEq, Nat.reduceAdd, Nat.reduceEqDiff, Nat.reduceLT, Nat.reduceLeDiff, QX]); all_goals (try simp [QV])) ?_
     rw [flt_len]
     (repeat' (first | with_reducible (first | apply splitVC_d <;> intro _ | apply splitVC <;> intro _) | ((with_reducible refine And.intro ?_ ?_); focus (first | exact True.intro | omega | (simp only [InK, ne_eq, and_true, true_and]; omega) | trivial)) | (simp -dsimp only [↓RP, RQ, Nat.reduceMul, reduceIte, reduceCtorEq, Nat.reduceAdd, Nat.reduceEqDiff, Nat.reduceLT, Nat.reduceLeDiff, wag, QW, Try.results36])))
   ·have hb : bdQ n r p = 2 := by unfold bdQ; rw [if_pos hr, if_neg hp]
    have fp := decide_eq_false hp
    rw [(kd_2 (p := fun _ => true) he (by omega)).1, (kd_2 he (by omega)).2, hb]
    unfold rsv I
    (repeat' (first | with_reducible (first | apply splitVC_d <;> intro _ | apply splitVC <;> intro _) | ((with_reducible refine And.intro ?_ ?_); focus (first | exact True.intro | omega | (simp only [InK, ne_eq, and_true, true_and]; omega) | trivial)) | (simp -dsimp only [↓RP, RQ, Nat.reduceMul, reduceIte, reduceCtorEq, Nat.reduceAdd, Nat.reduceEqDiff, Nat.reduceLT, Nat.reduceLeDiff, wag, QW, Try.results36])))
    refine callVC_old (c56 n m w hm he) (by (simp -dsimp only [↓RP, RQ, Nat.reduceMul, reduceIte, reduceCtorEq, Nat.reduceAdd, Nat.reduceEqDiff, Nat.reduceLT, Nat.reduceLeDiff, QX]); all_goals (try simp [QV, Go.Sx.Sub, Go.Sx.SubL]); all_goals (try exact lit2 _ _)) ?_
    (repeat' (first | with_reducible (first | apply splitVC_d <;> intro _ | apply splitVC <;> intro _) | ((with_reducible refine And.intro ?_ ?_); focus (first | exact True.intro | omega | (simp only [InK, ne_eq, and_true, true_and]; omega) | trivial)) | (simp -dsimp only [↓RP, RQ, Nat.reduceMul, reduceIte, reduceCtorEq, Nat.reduceAdd, Nat.reduceEqDiff, Nat.reduceLT, Nat.reduceLeDiff, wag, QW, Try.results36])))
    refine callVC (c51_1 r 0 ((n : Int) - 1)) ?_ ?_ ?_; iterate 2 focus ((simp -dsimp only [↓RP, RQ, Nat.reduceMul, reduceIte, reduceCtorEq, Nat.reduceAdd, Nat.reduceEqDiff, Nat.reduceLT, Nat.reduceLeDiff, QX]); all_goals (try simp [QV, Go.Sx.Sub, Go.Sx.SubL]); all_goals (try exact lit2 _ _))
    (repeat' (first | with_reducible (first | apply splitVC_d <;> intro _ | apply splitVC <;> intro _) | ((with_reducible refine And.intro ?_ ?_); focus (first | exact True.intro | omega | (simp only [InK, ne_eq, and_true, true_and]; omega) | trivial)) | (simp -dsimp only [↓RP, RQ, Nat.reduceMul, reduceIte, reduceCtorEq, Nat.reduceAdd, Nat.reduceEqDiff, Nat.reduceLT, Nat.reduceLeDiff, fr, wag, QW, Try.results36])))
    refine callVC (c51_1 p 1 n) ?_ ?_ ?_; iterate 2 focus ((simp -dsimp only [↓RP, RQ, Nat.reduceMul, reduceIte, reduceCtorEq, Nat.reduceAdd, Nat.reduceEqDiff, Nat.reduceLT, Nat.reduceLeDiff, QX]); all_goals (try simp [QV, Go.Sx.Sub, Go.Sx.SubL]); all_goals (try exact lit2 _ _))
    (repeat' (first | with_reducible (first | apply splitVC_d <;> intro _ | apply splitVC <;> intro _) | ((with_reducible refine And.intro ?_ ?_); focus (first | exact True.intro | omega | (simp only [InK, ne_eq, and_true, true_and]; omega) | trivial)) | (simp -dsimp only [↓RP, RQ, Nat.reduceMul, reduceIte, reduceCtorEq, Nat.reduceAdd, Nat.reduceEqDiff, Nat.reduceLT, Nat.reduceLeDiff, fr, fp, wag, QW, Try.results36])))
  ·have fr := decide_eq_false (show ¬ (0 ≤ r ∧ r ≤ (n : Int) - 1) by omega)
   have hb : bdQ n r p = 3 := by unfold bdQ; rw [if_neg hr]
   rw [(kd_2 (p := fun _ => true) he (by omega)).1, (kd_2 he (by omega)).2, hb]
   unfold rsv I
   (repeat' (first | with_reducible (first | apply splitVC_d <;> intro _ | apply splitVC <;> intro _) | ((with_reducible refine And.intro ?_ ?_); focus (first | exact True.intro | omega | (simp only [InK, ne_eq, and_true, true_and]; omega) | trivial)) | (simp -dsimp only [↓RP, RQ, Nat.reduceMul, reduceIte, reduceCtorEq, Nat.reduceAdd, Nat.reduceEqDiff, Nat.reduceLT, Nat.reduceLeDiff, wag, QW, Try.results36])))
   refine callVC_old (c56 n m w hm he) (by (simp -dsimp only [↓RP, RQ, Nat.reduceMul, reduceIte, reduceCtorEq, Nat.reduceAdd, Nat.reduceEqDiff, Nat.reduceLT, Nat.reduceLeDiff, QX]); all_goals (try simp [QV, Go.Sx.Sub, Go.Sx.SubL]); all_goals (try exact lit2 _ _)) ?_
   (repeat' (first | with_reducible (first | apply splitVC_d <;> intro _ | apply splitVC <;> intro _) | ((with_reducible refine And.intro ?_ ?_); focus (first | exact True.intro | omega | (simp only [InK, ne_eq, and_true, true_and]; omega) | trivial)) | (simp -dsimp only [↓RP, RQ, Nat.reduceMul, reduceIte, reduceCtorEq, Nat.reduceAdd, Nat.reduceEqDiff, Nat.reduceLT, Nat.reduceLeDiff, wag, QW, Try.results36])))
   refine callVC (c51_1 r 0 ((n : Int) - 1)) ?_ ?_ ?_; iterate 2 focus ((simp -dsimp only [↓RP, RQ, Nat.reduceMul, reduceIte, reduceCtorEq, Nat.reduceAdd, Nat.reduceEqDiff, Nat.reduceLT, Nat.reduceLeDiff, QX]); all_goals (try simp [QV, Go.Sx.Sub, Go.Sx.SubL]); all_goals (try exact lit2 _ _))
   (repeat' (first | with_reducible (first | apply splitVC_d <;> intro _ | apply splitVC <;> intro _) | ((with_reducible refine And.intro ?_ ?_); focus (first | exact True.intro | omega | (simp only [InK, ne_eq, and_true, true_and]; omega) | trivial)) | (simp -dsimp only [↓RP, RQ, Nat.reduceMul, reduceIte, reduceCtorEq, Nat.reduceAdd, Nat.reduceEqDiff, Nat.reduceLT, Nat.reduceLeDiff, fr, wag, QW, Try.results36])))
 ·rw [(kd_1 (p := fun _ => true) he).1, (kd_1 he).2]
  have hd : (!decide (ckR N m w = 0)) = true := by simp [he]
  unfold rsv I
  (repeat' (first | with_reducible (first | apply splitVC_d <;> intro _ | apply splitVC <;> intro _) | ((with_reducible refine And.intro ?_ ?_); focus (first | exact True.intro | omega | (simp only [InK, ne_eq, and_true, true_and]; omega) | trivial)) | (simp -dsimp only [↓RP, RQ, Nat.reduceMul, reduceIte, reduceCtorEq, Nat.reduceAdd, Nat.reduceEqDiff, Nat.reduceLT, Nat.reduceLeDiff, hd, wag, QW, Try.results36])))
  refine callVC_old (c56e N m w hm he) (by (simp -dsimp only [↓RP, RQ, Nat.reduceMul, reduceIte, reduceCtorEq, Nat.reduceAdd, Nat.reduceEqDiff, Nat.reduceLT, Nat.reduceLeDiff, QX]); all_goals (try simp [QV, Go.Sx.Sub, Go.Sx.SubL]); all_goals (try exact lit2 _ _)) ?_
  (repeat' (first | with_reducible (first | apply splitVC_d <;> intro _ | apply splitVC <;> intro _) | ((with_reducible refine And.intro ?_ ?_); focus (first | exact True.intro | omega | (simp only [InK, ne_eq, and_true, true_and]; omega) | trivial)) | (simp -dsimp only [↓RP, RQ, Nat.reduceMul, reduceIte, reduceCtorEq, Nat.reduceAdd, Nat.reduceEqDiff, Nat.reduceLT, Nat.reduceLeDiff, hd, wag, QW, Try.results36])))
end Go.He
end
section
set_option linter.unusedSimpArgs false
set_option linter.unusedVariables false
set_option linter.defProp false
set_option maxRecDepth 100000
set_option maxHeartbeats 16000000
namespace Go.He
open Go.Proofs
open Go.Sx
def plV (N : Int) (m : Nat) (w : Nat → Wd) (r : Int) : Int × Int := if kdE N m w (bdP N r) = 0 then (loP N.toNat (agrs w m N.toNat) r.toNat, hiP N.toNat (agrs w m N.toNat) r.toNat) else (0, 0)
def rgv (x : Int × Int) : SV := .agg [.val (.int .i64 x.1), .val (.int .i64 x.2)]
def gP (n : Nat) (L : List Nat) (r i : Nat) : Int := Dg n (L.getD i 0) r
theorem pl_0 {N : Int} {m : Nat} {w : Nat → Wd} {r : Int} (h : kdE N m w (bdP N r) ≠ 0) : plV N m w r = (0, 0) := by unfold plV; rw [if_neg h]
theorem pl_1 {n m : Nat} {w : Nat → Wd} {r : Nat} (h : kdE n m w (bdP n r) = 0) : plV n m w r = (mnF (gP n (agrs w m n) r) n (agrs w m n).length, mxF (gP n (agrs w m n) r) 1 (agrs w m n).length) := by unfold plV; rw [if_pos h, Int.toNat_natCast, Int.toNat_natCast]; rfl
theorem gP_bd {n : Nat} {L : List Nat} {r i : Nat} (h : r < n) : 1 ≤ gP n L r i ∧ gP n L r i ≤ n := Dg_bd h
theorem mnF_S (g : Nat → Int) (a : Int) (k : Nat) : mnF g a (k + 1) = min (mnF g a k) (g k) := rfl
theorem mxF_S (g : Nat → Int) (a : Int) (k : Nat) : mxF g a (k + 1) = max (mxF g a k) (g k) := rfl
theorem c34 (N : Int) (m : Nat) (w : Nat → Wd) (hm : m ≤ 1000000) (r : Int) : Contract Try.prog 34 [rsv N m w, I r] (.tup [rgv (plV N m w r), I (kdE N m w (bdP N r))]) := by
 refine contract_ofF (farAt 13 [(58, 61)]) Try.func34 rfl (by kernel_rfl) follows (by kernel_rfl) _ _ (by rw [Try.ntmps34]; simp) (by simp [OldL, Old, QV, rsv, wag, I]) ?_
 by_cases he : ckR N m w = 0
 ·have ⟨n2, n5, m12, _⟩ := ckR_ok he
  obtain ⟨n, rfl⟩ : ∃ n : Nat, N = n := ⟨N.toNat, by omega⟩
  have hw := ckR_fit he
  have hal := agrs_len (w := w) (m := m) (n := n) (by omega)
  by_cases hr : 0 ≤ r ∧ r < n
  ·have fr := decide_eq_true (show 0 ≤ r ∧ r ≤ (n : Int) - 1 by omega)
   have hb : bdP n r = 0 := by unfold bdP; rw [if_pos hr]
   by_cases h0 : (agrs w m n).length = 0
   ·have k1 := kd_3 (p := fun _ => true) he hb h0
    rw [pl_0 (by rw [k1.1]; decide), k1.1]
    unfold rsv I
    (repeat' (first | with_reducible (first | apply splitVC_d <;> intro _ | apply splitVC <;> intro _) | ((with_reducible refine And.intro ?_ ?_); focus (first | exact True.intro | omega | (simp only [InK, ne_eq, and_true, true_and]; omega) | trivial)) | (simp -dsimp only [↓RP, RQ, Nat.reduceMul, reduceIte, reduceCtorEq, Nat.reduceAdd, Nat.reduceEqDiff, Nat.reduceLT, Nat.reduceLeDiff, rgv, QW, Try.results34])))
    refine callVC_old (c56 n m w hm he) (by (simp -dsimp only [↓RP, RQ, Nat.reduceMul, reduceIte, reduceCtorEq, Nat.reduceAdd, Nat.reduceEqDiff, Nat.reduceLT, Nat.reduceLeDiff, QX]); all_goals (try simp [QV, Go.Sx.Sub, Go.Sx.SubL]); all_goals (try exact lit2 _ _)) ?_
    (repeat' (first | with_reducible (first | apply splitVC_d <;> intro _ | apply splitVC <;> intro _) | ((with_reducible refine And.intro ?_ ?_); focus (first | exact True.intro | omega | (simp only [InK, ne_eq, and_true, true_and]; omega) | trivial)) | (simp -dsimp only [↓RP, RQ, Nat.reduceMul, reduceIte, reduceCtorEq, Nat.reduceAdd, Nat.reduceEqDiff, Nat.reduceLT, Nat.reduceLeDiff, rgv, QW, Try.results34])))
    refine callVC (c51_1 r 0 ((n : Int) - 1)) ?_ ?_ ?_; iterate 2 focus ((simp -dsimp only [↓RP, RQ, Nat.reduceMul, reduceIte, reduceCtorEq, Nat.reduceAdd, Nat.reduceEqDiff, Nat.reduceLT, Nat.reduceLeDiff, QX]); all_goals (try simp [QV, Go.Sx.Sub, Go.Sx.SubL]); all_goals (try exact lit2 _ _))
    (repeat' (first | with_reducible (first | apply splitVC_d <;> intro _ | apply splitVC <;> intro _) | ((with_reducible refine And.intro ?_ ?_); focus (first | exact True.intro | omega | (simp only [InK, ne_eq, and_true, true_and]; omega) | trivial)) | (simp -dsimp only [↓RP, RQ, Nat.reduceMul, reduceIte, reduceCtorEq, Nat.reduceAdd, Nat.reduceEqDiff, Nat.reduceLT, Nat.reduceLeDiff, fr, rgv, QW, Try.results34])))
    refine callVC (c72 n (by omega) (by omega) m hm w hw) ?_ ?_ ?_; iterate 2 focus ((simp -dsimp only [↓RP, RQ, Nat.reduceMul, reduceIte, reduceCtorEq, Nat.reduceAdd, Nat.reduceEqDiff, Nat.reduceLT, Nat.reduceLeDiff, QX]); all_goals (try simp [QV, Go.Sx.Sub, Go.Sx.SubL]); all_goals (try exact lit2 _ _))
    (repeat' (first | with_reducible (first | apply splitVC_d <;> intro _ | apply splitVC <;> intro _) | ((with_reducible refine And.intro ?_ ?_); focus (first | exact True.intro | omega | (simp only [InK, ne_eq, and_true, true_and]; omega) | trivial)) | (simp -dsimp only [↓RP, RQ, Nat.reduceMul, reduceIte, reduceCtorEq, Nat.reduceAdd, Nat.reduceEqDiff, Nat.reduceLT, Nat.reduceLeDiff, h0, f22, rgv, QW, Try.results34])))
   ·obtain ⟨q, rfl⟩ : ∃ q : Nat, r = q := ⟨r.toNat, by omega⟩
    have hq : q < n := by omega
    have hq5 : q < 5 := by omega
    have k1 := kd_4 (p := fun _ => true) he hb h0
    rw [pl_1 k1.1, k1.1]
    unfold rsv I
    (repeat' (first | with_reducible (first | apply splitVC_d <;> intro _ | apply splitVC <;> intro _) | ((with_reducible refine And.intro ?_ ?_); focus (first | exact True.intro | omega | (simp only [InK, ne_eq, and_true, true_and]; omega) | trivial)) | (simp -dsimp only [↓RP, RQ, Nat.reduceMul, reduceIte, reduceCtorEq, Nat.reduceAdd, Nat.reduceEqDiff, Nat.reduceLT, Nat.reduceLeDiff, rgv, QW, Try.results34])))
    refine callVC_old (c56 n m w hm he) (by (simp -dsimp only [↓RP, RQ, Nat.reduceMul, reduceIte, reduceCtorEq, Nat.reduceAdd, Nat.reduceEqDiff, Nat.reduceLT, Nat.reduceLeDiff, QX]); all_goals (try simp [QV, Go.Sx.Sub, Go.Sx.SubL]); all_goals (try exact lit2 _ _)) ?_
    (repeat' (first | with_reducible (first | apply splitVC_d <;> intro _ | apply splitVC <;> intro _) | ((with_reducible refine And.intro ?_ ?_); focus (first | exact True.intro | omega | (simp only [InK, ne_eq, and_true, true_and]; omega) | trivial)) | (simp -dsimp only [↓RP, RQ, Nat.reduceMul, reduceIte, reduceCtorEq, Nat.reduceAdd, Nat.reduceEqDiff, Nat.reduceLT, Nat.reduceLeDiff, rgv, QW, Try.results34])))
    refine callVC (c51_1 q 0 ((n : Int) - 1)) ?_ ?_ ?_; iterate 2 focus ((simp -dsimp only [↓RP, RQ, Nat.reduceMul, reduceIte, reduceCtorEq, Nat.reduceAdd, Nat.reduceEqDiff, Nat.reduceLT, Nat.reduceLeDiff, QX]); all_goals (try simp [QV, Go.Sx.Sub, Go.Sx.SubL]); all_goals (try exact lit2 _ _))
    (repeat' (first | with_reducible (first | apply splitVC_d <;> intro _ | apply splitVC <;> intro _) | ((with_reducible refine And.intro ?_ ?_); focus (first | exact True.intro | omega | (simp only [InK, ne_eq, and_true, true_and]; omega) | trivial)) | (simp -dsimp only [↓RP, RQ, Nat.reduceMul, reduceIte, reduceCtorEq, Nat.reduceAdd, Nat.reduceEqDiff, Nat.reduceLT, Nat.reduceLeDiff, fr, rgv, QW, Try.results34])))
    refine callVC (c72 n (by omega) (by omega) m hm w hw) ?_ ?_ ?_; iterate 2 focus ((simp -dsimp only [↓RP, RQ, Nat.reduceMul, reduceIte, reduceCtorEq, Nat.reduceAdd, Nat.reduceEqDiff, Nat.reduceLT, Nat.reduceLeDiff, QX]); all_goals (try simp [QV, Go.Sx.Sub, Go.Sx.SubL]); all_goals (try exact lit2 _ _))
    (repeat' (first | with_reducible (first | apply splitVC_d <;> intro _ | apply splitVC <;> intro _) | ((with_reducible refine And.intro ?_ ?_); focus (first | exact True.intro | omega | (simp only [InK, ne_eq, and_true, true_and]; omega) | trivial)) | (simp -dsimp only [↓RP, RQ, Nat.reduceMul, reduceIte, reduceCtorEq, Nat.reduceAdd, Nat.reduceEqDiff, Nat.reduceLT, Nat.reduceLeDiff, h0, rgv, QW, Try.results34])))
    all_goals try (exfalso; omega)
    refine loop_vc (fun (k : Nat) => k ≤ (agrs w m n).length) (fun k => ⟨[(1, .val (.int .i64 (q : Nat))), (4, .ptr 1 0), (9, .ptr 60 0), (43, .arr true false (agrs w m n).length 5 (fun i j => .val (.int .i64 (Dg n ((agrs w m n).getD i 0) j)))), (44, .val (.int .i64 ((agrs w m n).length : Nat))), (45, .val (.int .i64 (k : Nat)))], [(60, .cells 42 [.val (.int .i64 (mnF (gP n (agrs w m n) q) n k)), .val (.int .i64 (mxF (gP n (agrs w m n) q) 1 k))]), (1, .cells 42 [.val (.int .i64 0), .val (.int .i64 0)])], 80⟩) (fun k => (agrs w m n).length - k) 0 (Nat.zero_le _) (weak [(60, some 33)] [] ?_ ?_ ?_) fun k hk => ?_
    iterate 3 focus ((simp -dsimp only [↓RP, RQ, Nat.reduceMul, reduceIte, reduceCtorEq, Nat.reduceAdd, Nat.reduceEqDiff, Nat.reduceLT, Nat.reduceLeDiff, QV, mnF, mxF]); all_goals (try simp [QV, mnF, mxF]))
    by_cases hlt : k < (agrs w m n).length
    ·have hg : [SV.val (.int .i64 (Dg n ((agrs w m n).getD k 0) 0)), SV.val (.int .i64 (Dg n ((agrs w m n).getD k 0) 1)), SV.val (.int .i64 (Dg n ((agrs w m n).getD k 0) 2)), SV.val (.int .i64 (Dg n ((agrs w m n).getD k 0) 3)), SV.val (.int .i64 (Dg n ((agrs w m n).getD k 0) 4))][q]? = some (.val (.int .i64 (gP n (agrs w m n) q k))) := pl_get (Dg n ((agrs w m n).getD k 0)) hq5
     have hb1 := gP_bd (L := agrs w m n) (i := k) hq
     (repeat' (first | with_reducible (first | apply splitVC_d <;> intro _ | apply splitVC <;> intro _) | ((with_reducible refine And.intro ?_ ?_); focus (first | exact True.intro | omega | (simp only [InK, ne_eq, and_true, true_and]; omega) | trivial)) | (simp -dsimp only [↓RP, RQ, Nat.reduceMul, reduceIte, reduceCtorEq, Nat.reduceAdd, Nat.reduceEqDiff, Nat.reduceLT, Nat.reduceLeDiff, hg, ← mnF_S, ← mxF_S, rgv, QW, Try.results34])))
     all_goals try (exfalso; omega)
     refine ⟨k + 1, by omega, by omega, weak [] [] ?_ ?_ ?_⟩
     iterate 2 focus ((simp -dsimp only [↓RP, RQ, Nat.reduceMul, reduceIte, reduceCtorEq, Nat.reduceAdd, Nat.reduceEqDiff, Nat.reduceLT, Nat.reduceLeDiff, QV, mnF_S, mxF_S]); all_goals (try simp [QV, mnF_S, mxF_S]))
     ·(simp -dsimp only [↓RP, RQ, Nat.reduceMul, reduceIte, reduceCtorEq, Nat.reduceAdd, Nat.reduceEqDiff, Nat.reduceLT, Nat.reduceLeDiff, QV]); all_goals (try simp [QV])
    ·have hkn : (agrs w m n).length = k := by omega
     (repeat' (first | with_reducible (first | apply splitVC_d <;> intro _ | apply splitVC <;> intro _) | ((with_reducible refine And.intro ?_ ?_); focus (first | exact True.intro | omega | (simp only [InK, ne_eq, and_true, true_and]; omega) | trivial)) | (simp -dsimp only [↓RP, RQ, Nat.reduceMul, reduceIte, reduceCtorEq, Nat.reduceAdd, Nat.reduceEqDiff, Nat.reduceLT, Nat.reduceLeDiff, hkn, rgv, QW, Try.results34])))
     all_goals try (exfalso; omega)
     all_goals simp
  ·have fr := decide_eq_false (show ¬ (0 ≤ r ∧ r ≤ (n : Int) - 1) by omega)
   have hb : bdP n r = 3 := by unfold bdP; rw [if_neg hr]
   have k1 := kd_2 (p := fun _ => true) (bad := bdP n r) he (by omega)
   rw [pl_0 (by rw [k1.1, hb]; decide), k1.1, hb]
   unfold rsv I
   (repeat' (first | with_reducible (first | apply splitVC_d <;> intro _ | apply splitVC <;> intro _) | ((with_reducible refine And.intro ?_ ?_); focus (first | exact True.intro | omega | (simp only [InK, ne_eq, and_true, true_and]; omega) | trivial)) | (simp -dsimp only [↓RP, RQ, Nat.reduceMul, reduceIte, reduceCtorEq, Nat.reduceAdd, Nat.reduceEqDiff, Nat.reduceLT, Nat.reduceLeDiff, rgv, QW, Try.results34])))
   refine callVC_old (c56 n m w hm he) (by (simp -dsimp only [↓RP, RQ, Nat.reduceMul, reduceIte, reduceCtorEq, Nat.reduceAdd, Nat.reduceEqDiff, Nat.reduceLT, Nat.reduceLeDiff, QX]); all_goals (try simp [QV, Go.Sx.Sub, Go.Sx.SubL]); all_goals (try exact lit2 _ _)) ?_
   (repeat' (first | with_reducible (first | apply splitVC_d <;> intro _ | apply splitVC <;> intro _) | ((with_reducible refine And.intro ?_ ?_); focus (first | exact True.intro | omega | (simp only [InK, ne_eq, and_true, true_and]; omega) | trivial)) | (simp -dsimp only [↓RP, RQ, Nat.reduceMul, reduceIte, reduceCtorEq, Nat.reduceAdd, Nat.reduceEqDiff, Nat.reduceLT, Nat.reduceLeDiff, rgv, QW, Try.results34])))
   refine callVC (c51_1 r 0 ((n : Int) - 1)) ?_ ?_ ?_; iterate 2 focus ((simp -dsimp only [↓RP, RQ, Nat.reduceMul, reduceIte, reduceCtorEq, Nat.reduceAdd, Nat.reduceEqDiff, Nat.reduceLT, Nat.reduceLeDiff, QX]); all_goals (try simp [QV, Go.Sx.Sub, Go.Sx.SubL]); all_goals (try exact lit2 _ _))
   (repeat' (first | with_reducible (first | apply splitVC_d <;> intro _ | apply splitVC <;> intro _) | ((with_reducible refine And.intro ?_ ?_); focus (first | exact True.intro | omega | (simp only [InK, ne_eq, and_true, true_and]; omega) | trivial)) | (simp -dsimp only [↓RP, RQ, Nat.reduceMul, reduceIte, reduceCtorEq, Nat.reduceAdd, Nat.reduceEqDiff, Nat.reduceLT, Nat.reduceLeDiff, fr, rgv, QW, Try.results34])))
 ·have k1 := kd_1 (p := fun _ => true) (bad := bdP N r) he
  rw [pl_0 (by rw [k1.1]; exact he), k1.1]
  have hd : (!decide (ckR N m w = 0)) = true := by simp [he]
  unfold rsv I
  (repeat' (first | with_reducible (first | apply splitVC_d <;> intro _ | apply splitVC <;> intro _) | ((with_reducible refine And.intro ?_ ?_); focus (first | exact True.intro | omega | (simp only [InK, ne_eq, and_true, true_and]; omega) | trivial)) | (simp -dsimp only [↓RP, RQ, Nat.reduceMul, reduceIte, reduceCtorEq, Nat.reduceAdd, Nat.reduceEqDiff, Nat.reduceLT, Nat.reduceLeDiff, hd, rgv, QW, Try.results34])))
  refine callVC_old (c56e N m w hm he) (by (simp -dsimp only [↓RP, RQ, Nat.reduceMul, reduceIte, reduceCtorEq, Nat.reduceAdd, Nat.reduceEqDiff, Nat.reduceLT, Nat.reduceLeDiff, QX]); all_goals (try simp [QV, Go.Sx.Sub, Go.Sx.SubL]); all_goals (try exact lit2 _ _)) ?_
  (repeat' (first | with_reducible (first | apply splitVC_d <;> intro _ | apply splitVC <;> intro _) | ((with_reducible refine And.intro ?_ ?_); focus (first | exact True.intro | omega | (simp only [InK, ne_eq, and_true, true_and]; omega) | trivial)) | (simp -dsimp only [↓RP, RQ, Nat.reduceMul, reduceIte, reduceCtorEq, Nat.reduceAdd, Nat.reduceEqDiff, Nat.reduceLT, Nat.reduceLeDiff, hd, rgv, QW, Try.results34])))
end Go.He
end
