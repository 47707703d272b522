/- A part of the proof. -/
import Derived.Test.YtpdebflfimmnpaaHF
import Derived.Test.YtpdebflfimmnpaaEG
import Derived.Test.YtpdebflfimmnpaaEF
section
set_option linter.unusedSimpArgs false
set_option linter.unusedVariables false
set_option linter.defProp false
set_option maxRecDepth 100000
set_option maxHeartbeats 16000000
namespace Go.He
open Go.Proofs
open Go.Sx
def nsv (l : List Nat) : SV := .arr true false l.length 1 (fun i _ => .val (.int .i64 (l.getD i 0 : Nat)))
structure Wz where
 f : Nat
 s : Bs
 done : List Nat
 off : Nat
 J : Nat → Int
structure Wo (w : Nat → Wd) (m n x to : Nat) (z : Wz) : Prop where
 e : bfs w m n to z.f z.s = way w m n x to
 bf : Bf w m n x z.done z.s
 fuel : n < z.done.length + z.f
 len : ∀ y, (z.s.ways y).length ≤ z.done.length
 J : ∀ i, i < z.s.wait.length → z.J (z.off + i) = (z.s.wait.getD i 0 : Nat)
 off : z.off ≤ z.done.length
structure Wi2 (w : Nat → Wd) (m a : Nat) (s : Bs) (d : Nat) (b : Nat) (off : Nat) (J : Nat → Int) : Prop where
 len : ∀ y, ((inn w m a s b).ways y).length ≤ d + 1
 la : ((inn w m a s b).ways a).length ≤ d
 wl : (inn w m a s b).wait.length ≤ s.wait.length + b
 J : ∀ i, i < (inn w m a s b).wait.length → J (off + i) = ((inn w m a s b).wait.getD i 0 : Nat)
 off : off ≤ d
def sI (b : Bool) : Int := if b = true then 1 else 0
theorem sI_t : sI true = 1 := rfl
theorem sI_f : sI false = 0 := rfl
theorem ty25 : tyOf Try.prog 25 = some ⟨false, 1, some [.slice none 0 0], .slice 3 1⟩ := by kernel_rfl
theorem ty3 : tyOf Try.prog 3 = some ⟨false, 1, some [.int .i64 0], .int .i64⟩ := by kernel_rfl
theorem up_len {W : Nat → List Nat} {d a b i : Nat} (h : ∀ y, (W y).length ≤ d + 1) (ha : (W a).length ≤ d) : ∀ y, (upN W b (W a ++ [i]) y).length ≤ d + 1 := fun y => by
 unfold upN; split
 ·rw [app_len]; omega
 ·exact h y
theorem up_a {W : Nat → List Nat} {d a b i : Nat} (ha : (W a).length ≤ d) (hab : a ≠ b) : (upN W b (W a ++ [i]) a).length ≤ d := by
 unfold upN; rw [if_neg hab]; exact ha
theorem up_J {J : Nat → Int} {l : List Nat} {off b : Nat} (h : ∀ i, i < l.length → J (off + i) = (l.getD i 0 : Nat)) : ∀ i, i < (l ++ [b]).length → (if off + i < off + l.length then J (off + i) else (b : Int)) = ((l ++ [b]).getD i 0 : Nat) := fun i hi => by
 rw [getD_app]
 rw [app_len] at hi
 by_cases c : i < l.length
 ·rw [if_pos (by omega), if_pos c]; exact h i c
 ·rw [if_neg (by omega), if_neg c, if_pos (by omega)]
theorem up_J0 {J : Nat → Int} {l : List Nat} {off b : Nat} (h : ∀ i, i < l.length → J (off + i) = (l.getD i 0 : Nat)) : ∀ i, i < (l ++ [b]).length → (if 0 + i < l.length then J (off + (0 + i)) else (b : Int)) = ((l ++ [b]).getD i 0 : Nat) := fun i hi => by
 rw [getD_app, Nat.zero_add]
 rw [app_len] at hi
 by_cases c : i < l.length
 ·rw [if_pos c, if_pos c]; exact h i c
 ·rw [if_neg c, if_neg c, if_pos (by omega)]
theorem nsv_wk (hp : List (Nat × Blk)) (m : Nat → Option Nat) (nn : Nat) (sl : Nat → Bool) (l : List Nat) : Wk hp m nn sl (nsv l) (nsv l) = True := by simp [nsv, Wk]
theorem inn_seen {w : Nat → Wd} {m a : Nat} {s : Bs} (h : s.seen a = true) : ∀ b, (inn w m a s b).seen a = true
 | 0 => h
 | b + 1 => by
  have ih := inn_seen (w := w) (m := m) h b
  simp only [inn, stp]
  split
  ·split
   ·show upN _ _ _ _ = true; unfold upN; split
    ·rfl
    ·exact ih
   ·exact ih
  ·exact ih
theorem inn_head {w : Nat → Wd} {m a : Nat} {s : Bs} {r : List Nat} (h : s.wait = a :: r) : ∀ b, ∃ r', (inn w m a s b).wait = a :: r'
 | 0 => ⟨r, h⟩
 | b + 1 => by
  obtain ⟨r', hr⟩ := inn_head h b
  simp only [inn, stp]
  split
  ·split
   ·exact ⟨r' ++ [b], by show (inn w m a s b).wait ++ [b] = _; rw [hr]; rfl⟩
   ·exact ⟨r', hr⟩
  ·exact ⟨r', hr⟩
theorem c89 (n : Nat) (h5 : n ≤ 5) (m : Nat) (hm : m ≤ 12) (w : Nat → Wd) (x to : Nat) (hx : x < n) (ht : to < n) : Contract Try.prog 89 [pref n m w, I x, I to, .cmp false kfP (gDom (sG w m)) (gGet (sG w m)), .cmp false kfP (wDomF w m) (gGet (wG w m))] (.tup [nsv ((way w m n x to).getD []), B (way w m n x to).isSome]) := by
 refine contract_ofF (farL [(18, [(0, 0)]), (19, [(0, 0)])]) Try.func89 rfl (by kernel_rfl) follows (by kernel_rfl) _ _ (by rw [Try.ntmps89]; simp) (by simp [OldL, Old, QV, pref, I, gGet_old]) ?_
 unfold pref I
 (repeat' (first | with_reducible (first | apply splitVC_d <;> intro _ | apply splitVC <;> intro _) | ((with_reducible refine And.intro ?_ ?_); focus (first | exact True.intro | omega | (simp only [InK, ne_eq, and_true, true_and]; omega) | (and_intros <;> first | exact .inr trivial | exact Nat.le_refl _ | exact one1 _ | exact one5 _ _ _ _ _ | omega) | trivial)) | (simp -dsimp only [↓RP, RQ, Nat.reduceMul, reduceIte, reduceCtorEq, Nat.reduceAdd, Nat.reduceEqDiff, Nat.reduceLT, Nat.reduceLeDiff, mi102, ↓RY, QW, Try.results89])))
 refine loop_vc (fun (z : Wz) => Wo w m n x to z) (fun z => ⟨[(0, .ref false 2 (fun j => rf n m w j)), (2, .val (.int .i64 (to : Nat))), (3, .cmp false kfP (gDom (sG w m)) (gGet (sG w m))), (4, .cmp false kfP (wDomF w m) (gGet (wG w m))), (10, .val (.slice none 0 0)), (11, .val (.bool false)), (12, .vec 60 n 1), (13, .vec 61 n 1), (14, .que 62 z.off z.s.wait.length 1)], [(60, .rows 25 1 n (fun y _ => nsv (z.s.ways y))), (61, .rows 3 1 n (fun y _ => .val (.int .i64 (sI (z.s.seen y))))), (62, .rows 3 1 (z.off + z.s.wait.length) (fun y _ => .val (.int .i64 (z.J y))))], 100⟩) (fun z => z.f) ⟨n + 1, ini x, [], 0, fun _ => x⟩ ⟨rfl, bf_ini hx, by simp, fun y => Nat.zero_le _, fun i hi => by simp [ini] at hi ⊢; simp [hi], Nat.zero_le _⟩ (weak [(60, some 7), (61, some 14), (62, some 21)] [] ?_ ?_ ?_) fun z hz => ?_
 iterate 3 focus ((simp -dsimp only [↓RP, RQ, Nat.reduceMul, reduceIte, reduceCtorEq, Nat.reduceAdd, Nat.reduceEqDiff, Nat.reduceLT, Nat.reduceLeDiff, QV, nsv, ini, sI]); all_goals (try simp [QV, nsv, ini, sI, gGet_wk]); all_goals first | exact ⟨fun _ _ => rfl, fun i _ => by split <;> rfl⟩ | skip)
 obtain ⟨f, s, done, off, J⟩ := z
 obtain ⟨z1, z2, z3, z4, z5, z6⟩ := hz
 simp only [] at z1 z2 z3 z4 z5 z6
 have hbl := bf_len z2
 cases hw : s.wait with
 | nil =>
  have hway : way w m n x to = none := by
   rw [← z1]
   cases f with
   | zero => rfl
   | succ f => simp only [bfs, hw]
  rw [hway]
  (repeat' (first | with_reducible (first | apply splitVC_d <;> intro _ | apply splitVC <;> intro _) | ((with_reducible refine And.intro ?_ ?_); focus (first | exact True.intro | omega | (simp only [InK, ne_eq, and_true, true_and]; omega) | (and_intros <;> first | exact .inr trivial | exact Nat.le_refl _ | exact one1 _ | exact one5 _ _ _ _ _ | omega) | trivial)) | (simp -dsimp only [↓RP, RQ, Nat.reduceMul, reduceIte, reduceCtorEq, Nat.reduceAdd, Nat.reduceEqDiff, Nat.reduceLT, Nat.reduceLeDiff, hw, List.length_nil, nsv, mi102, ↓RY, QW, Try.results89])))
  all_goals try (exfalso; omega)
  all_goals simp
 | cons a r =>
  have hj0 := z5 0 (by rw [hw]; simp)
  rw [hw] at hj0 hbl
  simp only [List.getD_cons_zero, Nat.add_zero] at hj0
  have han : a < n := z2.lt a (by rw [hw]; simp)
  have hlc : (a :: r).length = r.length + 1 := rfl
  obtain ⟨f, rfl⟩ : ∃ f', f = f' + 1 := ⟨f - 1, by rw [hlc] at hbl; omega⟩
  have hla := z4 a
  have hlw : r.length + 1 ≤ n := by rw [hlc] at hbl; omega
  by_cases hat : a = to
  ·have hway : way w m n x to = some (s.ways a) := by rw [← z1]; simp only [bfs, hw]; rw [if_pos hat]
   rw [hway]
   have fd := decide_eq_true (show (a : Int) = (to : Int) by omega)
   (repeat' (first | with_reducible (first | apply splitVC_d <;> intro _ | apply splitVC <;> intro _) | ((with_reducible refine And.intro ?_ ?_); focus (first | exact True.intro | omega | (simp only [InK, ne_eq, and_true, true_and]; omega) | (and_intros <;> first | exact .inr trivial | exact Nat.le_refl _ | exact one1 _ | exact one5 _ _ _ _ _ | omega) | trivial)) | (simp -dsimp only [↓RP, RQ, Nat.reduceMul, reduceIte, reduceCtorEq, Nat.reduceAdd, Nat.reduceEqDiff, Nat.reduceLT, Nat.reduceLeDiff, hw, hlc, hj0, fd, nsv, mi102, ↓RY, QW, Try.results89])))
   all_goals try (exfalso; omega)
   all_goals (intro i j hi hj; rfl)
  ·have fd := decide_eq_false (show ¬ (a : Int) = (to : Int) by omega)
   have hnext : bfs w m n to f (nxt w m n s) = way w m n x to := by rw [← z1]; simp only [bfs, hw]; rw [if_neg hat]
   (repeat' (first | with_reducible (first | apply splitVC_d <;> intro _ | apply splitVC <;> intro _) | ((with_reducible refine And.intro ?_ ?_); focus (first | exact True.intro | omega | (simp only [InK, ne_eq, and_true, true_and]; omega) | (and_intros <;> first | exact .inr trivial | exact Nat.le_refl _ | exact one1 _ | exact one5 _ _ _ _ _ | omega) | trivial)) | (simp -dsimp only [↓RP, RQ, Nat.reduceMul, reduceIte, reduceCtorEq, Nat.reduceAdd, Nat.reduceEqDiff, Nat.reduceLT, Nat.reduceLeDiff, hw, hlc, hj0, fd, nsv, mi102, ↓RY, QW, Try.results89])))
   all_goals try (exfalso; omega)
   simp only [← hlc, ← hw]
   refine loop_vc (fun (z : Nat × Nat × (Nat → Int)) => z.1 ≤ n ∧ Wi2 w m a s done.length z.1 z.2.1 z.2.2) (fun z => ⟨[(0, .ref false 2 (fun j => rf n m w j)), (2, .val (.int .i64 (to : Nat))), (3, .cmp false kfP (gDom (sG w m)) (gGet (sG w m))), (4, .cmp false kfP (wDomF w m) (gGet (wG w m))), (10, .val (.slice none 0 0)), (11, .val (.bool false)), (12, .vec 60 n 1), (13, .vec 61 n 1), (14, .que 62 z.2.1 (inn w m a s z.1).wait.length 1), (15, .val (.int .i64 (a : Nat))), (55, .val (.int .i64 (n : Nat))), (56, .val (.int .i64 (z.1 : Nat)))], [(60, .rows 25 1 n (fun y _ => nsv ((inn w m a s z.1).ways y))), (61, .rows 3 1 n (fun y _ => .val (.int .i64 (sI ((inn w m a s z.1).seen y))))), (62, .rows 3 1 (z.2.1 + (inn w m a s z.1).wait.length) (fun y _ => .val (.int .i64 (z.2.2 y))))], 200⟩) (fun z => n - z.1) (0, off, J) ⟨Nat.zero_le _, ⟨fun y => Nat.le_succ_of_le (z4 y), hla, Nat.le_refl _, z5, z6⟩⟩ (weak [] [] ?_ ?_ ?_) fun z hz => ?_
   iterate 3 focus ((simp -dsimp only [↓RP, RQ, Nat.reduceMul, reduceIte, reduceCtorEq, Nat.reduceAdd, Nat.reduceEqDiff, Nat.reduceLT, Nat.reduceLeDiff, QV, inn, nsv]); all_goals (try simp [QV, nsv, ini, sI, gGet_wk, inn]))
   obtain ⟨b, off, J⟩ := z
   obtain ⟨y0, y1, y2, y3, y4, y5⟩ := hz
   simp only [] at y0 y1 y2 y3 y4 y5
   have hwl : s.wait.length = r.length + 1 := by rw [hw]; rfl
   by_cases hltb : b < n
   ·have hsa := inn_seen (w := w) (m := m) ((z2.seen a).2 (by rw [hw]; simp)) b
    have hdl : done.length ≤ 5 := by rw [hlc] at hbl; omega
    cases h1 : stI w a b m with
    | some i =>
     have him := (stI_some h1).1
     have hl : lkI w m a b = some i := by unfold lkI; rw [h1]
     have dS : gDom (sG w m) (Value.agg #[.int .i64 (a : Nat), .int .i64 (b : Nat)]) = true := by show gDom (sG w m) (kv a b) = true; rw [gDom_kv]; unfold sG; rw [h1]; rfl
     have gS : gGet (sG w m) (Value.agg #[.int .i64 (a : Nat), .int .i64 (b : Nat)]) = .val (.int .i64 (i : Nat)) := by show gGet (sG w m) (kv a b) = _; rw [gGet_kv]; unfold sG; rw [h1]; rfl
     cases hs : (inn w m a s b).seen b with
     | true =>
      have hS : inn w m a s (b + 1) = inn w m a s b := by show stp w m a (inn w m a s b) b = _; unfold stp; rw [hl]; simp only [hs]; rfl
      (repeat' (first | with_reducible (first | apply splitVC_d <;> intro _ | apply splitVC <;> intro _) | ((with_reducible refine And.intro ?_ ?_); focus (first | exact True.intro | omega | (simp only [InK, ne_eq, and_true, true_and]; omega) | (and_intros <;> first | exact .inr trivial | exact Nat.le_refl _ | exact one1 _ | exact one5 _ _ _ _ _ | omega) | trivial)) | (simp -dsimp only [↓RP, RQ, Nat.reduceMul, reduceIte, reduceCtorEq, Nat.reduceAdd, Nat.reduceEqDiff, Nat.reduceLT, Nat.reduceLeDiff, dS, gS, hs, sI_t, svIte, mi102, ↓RY, QW, Try.results89])))
      all_goals try (exfalso; omega)
      refine ⟨(b + 1, off, J), ⟨by show b + 1 ≤ n; omega, by rw [hS]; exact y1, by rw [hS]; exact y2, by rw [hS]; exact Nat.le_trans y3 (by omega), by rw [hS]; exact y4, y5⟩, by show n - (b + 1) < n - b; omega, weak [] [] ?_ ?_ ?_⟩
      iterate 2 focus ((simp -dsimp only [↓RP, RQ, Nat.reduceMul, reduceIte, reduceCtorEq, Nat.reduceAdd, Nat.reduceEqDiff, Nat.reduceLT, Nat.reduceLeDiff, QV, hS]); all_goals (try simp [QV, nsv_wk, gGet_wk, hS]))
      ·(simp -dsimp only [↓RP, RQ, Nat.reduceMul, reduceIte, reduceCtorEq, Nat.reduceAdd, Nat.reduceEqDiff, Nat.reduceLT, Nat.reduceLeDiff, QV]); all_goals (try simp [QV])
     | false =>
      have hS : inn w m a s (b + 1) = ⟨(inn w m a s b).wait ++ [b], upN (inn w m a s b).ways b ((inn w m a s b).ways a ++ [i]), upN (inn w m a s b).seen b true⟩ := by show stp w m a (inn w m a s b) b = _; unfold stp; rw [hl]; simp only [hs]; rfl
      have hab : a ≠ b := fun e => by subst e; rw [hs] at hsa; cases hsa
      (repeat' (first | with_reducible (first | apply splitVC_d <;> intro _ | apply splitVC <;> intro _) | ((with_reducible refine And.intro ?_ ?_); focus (first | exact True.intro | omega | (simp only [InK, ne_eq, and_true, true_and]; omega) | (and_intros <;> first | exact .inr trivial | exact Nat.le_refl _ | exact one1 _ | exact one5 _ _ _ _ _ | omega) | trivial)) | (simp -dsimp only [↓RP, RQ, Nat.reduceMul, reduceIte, reduceCtorEq, Nat.reduceAdd, Nat.reduceEqDiff, Nat.reduceLT, Nat.reduceLeDiff, dS, gS, hs, sI_f, svIte, nsv, mi102, ↓RY, QW, Try.results89])))
      all_goals try (exfalso; omega)
      refine growRegion follows [] (by kernel_rfl) ?_
      (repeat' (first | with_reducible (first | apply splitVC_d <;> intro _ | apply splitVC <;> intro _) | ((with_reducible refine And.intro ?_ ?_); focus (first | exact True.intro | omega | (simp only [InK, ne_eq, and_true, true_and]; omega) | (and_intros <;> first | exact .inr trivial | exact Nat.le_refl _ | exact one1 _ | exact one5 _ _ _ _ _ | omega) | trivial)) | (simp -dsimp only [↓RP, RQ, Nat.reduceMul, reduceIte, reduceCtorEq, Nat.reduceAdd, Nat.reduceEqDiff, Nat.reduceLT, Nat.reduceLeDiff, dS, gS, hs, sI_f, svIte, nsv, mi102, ↓RY, QW, Try.results89])))
      all_goals try (exfalso; omega)
      refine rawSeq (seqH_op ?_)
      (repeat' (first | with_reducible (first | apply splitVC_d <;> intro _ | apply splitVC <;> intro _) | ((with_reducible refine And.intro ?_ ?_); focus (first | exact True.intro | omega | (simp only [InK, ne_eq, and_true, true_and]; omega) | (and_intros <;> first | exact .inr trivial | exact Nat.le_refl _ | exact one1 _ | exact one5 _ _ _ _ _ | omega) | trivial)) | (simp -dsimp only [↓RP, RQ, Nat.reduceMul, reduceIte, reduceCtorEq, Nat.reduceAdd, Nat.reduceEqDiff, Nat.reduceLT, Nat.reduceLeDiff, mi102, ↓RY, QW, Try.results89])))
      refine seqH_op ?_
      (repeat' (first | with_reducible (first | apply splitVC_d <;> intro _ | apply splitVC <;> intro _) | ((with_reducible refine And.intro ?_ ?_); focus (first | exact True.intro | omega | (simp only [InK, ne_eq, and_true, true_and]; omega) | (and_intros <;> first | exact .inr trivial | exact Nat.le_refl _ | exact one1 _ | exact one5 _ _ _ _ _ | omega) | trivial)) | (simp -dsimp only [↓RP, RQ, Nat.reduceMul, reduceIte, reduceCtorEq, Nat.reduceAdd, Nat.reduceEqDiff, Nat.reduceLT, Nat.reduceLeDiff, mi102, ↓RY, QW, Try.results89])))
      refine seqH_op ?_
      (repeat' (first | with_reducible (first | apply splitVC_d <;> intro _ | apply splitVC <;> intro _) | ((with_reducible refine And.intro ?_ ?_); focus (first | exact True.intro | omega | (simp only [InK, ne_eq, and_true, true_and]; omega) | (and_intros <;> first | exact .inr trivial | exact Nat.le_refl _ | exact one1 _ | exact one5 _ _ _ _ _ | omega) | trivial)) | (simp -dsimp only [↓RP, RQ, Nat.reduceMul, reduceIte, reduceCtorEq, Nat.reduceAdd, Nat.reduceEqDiff, Nat.reduceLT, Nat.reduceLeDiff, mi102, ↓RY, QW, Try.results89])))
      refine seqH_hand rfl (que_vc (id := 62) (off := off) (n := (inn w m a s b).wait.length) (n' := off + (inn w m a s b).wait.length) (m := 1) (k := 1) (e := 3) ty25 ty3 rfl (by omega) rfl rfl rfl (by exact ⟨Nat.le_refl _, rfl⟩) (by exact one1 _) rfl (Nat.le_refl _) (by omega) (by omega) (by rw [by2]; omega) (by simp) ?_ ?_)
      ·refine seqH_op ?_
       (repeat' (first | with_reducible (first | apply splitVC_d <;> intro _ | apply splitVC <;> intro _) | ((with_reducible refine And.intro ?_ ?_); focus (first | exact True.intro | omega | (simp only [InK, ne_eq, and_true, true_and]; omega) | (and_intros <;> first | exact .inr trivial | exact Nat.le_refl _ | exact one1 _ | exact one5 _ _ _ _ _ | omega) | trivial)) | (simp -dsimp only [↓RP, RQ, Nat.reduceMul, reduceIte, reduceCtorEq, Nat.reduceAdd, Nat.reduceEqDiff, Nat.reduceLT, Nat.reduceLeDiff, seqH_nil, mi102, ↓RY, QW, Try.results89])))
       all_goals try (exfalso; omega)
       refine ⟨(b + 1, off, fun y => if y < off + (inn w m a s b).wait.length then J y else b), ⟨by show b + 1 ≤ n; omega, ?_, ?_, ?_, ?_, y5⟩, by show n - (b + 1) < n - b; omega, weak [(62, some 252)] [246] ?_ ?_ ?_⟩
       ·rw [hS]; exact up_len y1 y2
       ·rw [hS]; exact up_a y2 hab
       ·rw [hS]; simp only [List.length_append, List.length_singleton]; omega
       ·rw [hS]; exact up_J y4
       ·(simp -dsimp only [↓RP, RQ, Nat.reduceMul, reduceIte, reduceCtorEq, Nat.reduceAdd, Nat.reduceEqDiff, Nat.reduceLT, Nat.reduceLeDiff, QV, nsv, hS, app_len]); all_goals (try simp [QV, gGet_wk, hS, app_len])
       ·(simp -dsimp only [↓RP, RQ, Nat.reduceMul, reduceIte, reduceCtorEq, Nat.reduceAdd, Nat.reduceEqDiff, Nat.reduceLT, Nat.reduceLeDiff, QV, nsv, hS, app_len]); all_goals (try simp [QV, gGet_wk, hS, app_len])
        refine ⟨fun y hy => ?_, fun y hy => ?_, by omega, fun y hy => ?_⟩
        ·by_cases e : y = b
         ·simp only [upN, if_pos e]
          simp [Go.Sx.Wk, isIn, blk]
          intro z hz
          by_cases hc : z < ((inn w m a s b).ways a).length
          ·simp [hc, List.getElem?_append_left hc]
          ·obtain rfl : z = ((inn w m a s b).ways a).length := by omega
           simp
         ·simp only [upN, if_neg e]; simp [Go.Sx.Wk]
        ·by_cases e : y = b <;> simp [upN, e, sI]
        ·by_cases hc : y < off + (inn w m a s b).wait.length
         ·simp [hc]
         ·obtain rfl : y = off + (inn w m a s b).wait.length := by omega
          simp
       ·(simp -dsimp only [↓RP, RQ, Nat.reduceMul, reduceIte, reduceCtorEq, Nat.reduceAdd, Nat.reduceEqDiff, Nat.reduceLT, Nat.reduceLeDiff, QV]); all_goals (try simp [QV])
      ·refine seqH_op ?_
       (repeat' (first | with_reducible (first | apply splitVC_d <;> intro _ | apply splitVC <;> intro _) | ((with_reducible refine And.intro ?_ ?_); focus (first | exact True.intro | omega | (simp only [InK, ne_eq, and_true, true_and]; omega) | (and_intros <;> first | exact .inr trivial | exact Nat.le_refl _ | exact one1 _ | exact one5 _ _ _ _ _ | omega) | trivial)) | (simp -dsimp only [↓RP, RQ, Nat.reduceMul, reduceIte, reduceCtorEq, Nat.reduceAdd, Nat.reduceEqDiff, Nat.reduceLT, Nat.reduceLeDiff, seqH_nil, mi102, ↓RY, QW, Try.results89])))
       all_goals try (exfalso; omega)
       refine ⟨(b + 1, 0, fun y => if y < (inn w m a s b).wait.length then J (off + y) else b), ⟨by show b + 1 ≤ n; omega, ?_, ?_, ?_, ?_, Nat.zero_le _⟩, by show n - (b + 1) < n - b; omega, weak [(62, some 252)] [246] ?_ ?_ ?_⟩
       ·rw [hS]; exact up_len y1 y2
       ·rw [hS]; exact up_a y2 hab
       ·rw [hS]; simp only [List.length_append, List.length_singleton]; omega
       ·rw [hS]; exact up_J0 y4
       ·(simp -dsimp only [↓RP, RQ, Nat.reduceMul, reduceIte, reduceCtorEq, Nat.reduceAdd, Nat.reduceEqDiff, Nat.reduceLT, Nat.reduceLeDiff, QV, nsv, hS, app_len]); all_goals (try simp [QV, gGet_wk, hS, app_len])
       ·(simp -dsimp only [↓RP, RQ, Nat.reduceMul, reduceIte, reduceCtorEq, Nat.reduceAdd, Nat.reduceEqDiff, Nat.reduceLT, Nat.reduceLeDiff, QV, nsv, hS, app_len]); all_goals (try simp [QV, gGet_wk, hS, app_len])
        refine ⟨fun y hy => ?_, fun y hy => ?_, fun y hy => ?_⟩
        ·by_cases e : y = b
         ·simp only [upN, if_pos e]
          simp [Go.Sx.Wk, isIn, blk]
          intro z hz
          by_cases hc : z < ((inn w m a s b).ways a).length
          ·simp [hc, List.getElem?_append_left hc]
          ·obtain rfl : z = ((inn w m a s b).ways a).length := by omega
           simp
         ·simp only [upN, if_neg e]; simp [Go.Sx.Wk]
        ·by_cases e : y = b <;> simp [upN, e, sI]
        ·by_cases hc : y < (inn w m a s b).wait.length
         ·simp [hc]
         ·obtain rfl : y = (inn w m a s b).wait.length := by omega
          simp
       ·(simp -dsimp only [↓RP, RQ, Nat.reduceMul, reduceIte, reduceCtorEq, Nat.reduceAdd, Nat.reduceEqDiff, Nat.reduceLT, Nat.reduceLeDiff, QV]); all_goals (try simp [QV])
    | none =>
     have dS : gDom (sG w m) (Value.agg #[.int .i64 (a : Nat), .int .i64 (b : Nat)]) = false := by show gDom (sG w m) (kv a b) = false; rw [gDom_kv]; unfold sG; rw [h1]; rfl
     cases h2 : wkI w a b m with
     | some i =>
      have him := (wkI_some h2).1
      have hl : lkI w m a b = some i := by unfold lkI; rw [h1]; exact h2
      have dW : wDomF w m (Value.agg #[.int .i64 (a : Nat), .int .i64 (b : Nat)]) = true := by unfold wDomF; rw [dS]; show (true && gDom (wG w m) (kv a b)) = true; rw [gDom_kv]; unfold wG; rw [h2]; rfl
      have gW : gGet (wG w m) (Value.agg #[.int .i64 (a : Nat), .int .i64 (b : Nat)]) = .val (.int .i64 (i : Nat)) := by show gGet (wG w m) (kv a b) = _; rw [gGet_kv]; unfold wG; rw [h2]; rfl
      cases hs : (inn w m a s b).seen b with
      | true =>
       have hS : inn w m a s (b + 1) = inn w m a s b := by show stp w m a (inn w m a s b) b = _; unfold stp; rw [hl]; simp only [hs]; rfl
       (repeat' (first | with_reducible (first | apply splitVC_d <;> intro _ | apply splitVC <;> intro _) | ((with_reducible refine And.intro ?_ ?_); focus (first | exact True.intro | omega | (simp only [InK, ne_eq, and_true, true_and]; omega) | (and_intros <;> first | exact .inr trivial | exact Nat.le_refl _ | exact one1 _ | exact one5 _ _ _ _ _ | omega) | trivial)) | (simp -dsimp only [↓RP, RQ, Nat.reduceMul, reduceIte, reduceCtorEq, Nat.reduceAdd, Nat.reduceEqDiff, Nat.reduceLT, Nat.reduceLeDiff, dS, dW, gW, hs, sI_t, svIte, mi102, ↓RY, QW, Try.results89])))
       all_goals try (exfalso; omega)
       refine ⟨(b + 1, off, J), ⟨by show b + 1 ≤ n; omega, by rw [hS]; exact y1, by rw [hS]; exact y2, by rw [hS]; exact Nat.le_trans y3 (by omega), by rw [hS]; exact y4, y5⟩, by show n - (b + 1) < n - b; omega, weak [] [] ?_ ?_ ?_⟩
       iterate 2 focus ((simp -dsimp only [↓RP, RQ, Nat.reduceMul, reduceIte, reduceCtorEq, Nat.reduceAdd, Nat.reduceEqDiff, Nat.reduceLT, Nat.reduceLeDiff, QV, hS]); all_goals (try simp [QV, nsv_wk, gGet_wk, hS]))
       ·(simp -dsimp only [↓RP, RQ, Nat.reduceMul, reduceIte, reduceCtorEq, Nat.reduceAdd, Nat.reduceEqDiff, Nat.reduceLT, Nat.reduceLeDiff, QV]); all_goals (try simp [QV])
      | false =>
       have hS : inn w m a s (b + 1) = ⟨(inn w m a s b).wait ++ [b], upN (inn w m a s b).ways b ((inn w m a s b).ways a ++ [i]), upN (inn w m a s b).seen b true⟩ := by show stp w m a (inn w m a s b) b = _; unfold stp; rw [hl]; simp only [hs]; rfl
       have hab : a ≠ b := fun e => by subst e; rw [hs] at hsa; cases hsa
       (repeat' (first | with_reducible (first | apply splitVC_d <;> intro _ | apply splitVC <;> intro _) | ((with_reducible refine And.intro ?_ ?_); focus (first | exact True.intro | omega | (simp only [InK, ne_eq, and_true, true_and]; omega) | (and_intros <;> first | exact .inr trivial | exact Nat.le_refl _ | exact one1 _ | exact one5 _ _ _ _ _ | omega) | trivial)) | (simp -dsimp only [↓RP, RQ, Nat.reduceMul, reduceIte, reduceCtorEq, Nat.reduceAdd, Nat.reduceEqDiff, Nat.reduceLT, Nat.reduceLeDiff, dS, dW, gW, hs, sI_f, svIte, nsv, mi102, ↓RY, QW, Try.results89])))
       all_goals try (exfalso; omega)
       refine growRegion follows [] (by kernel_rfl) ?_
       (repeat' (first | with_reducible (first | apply splitVC_d <;> intro _ | apply splitVC <;> intro _) | ((with_reducible refine And.intro ?_ ?_); focus (first | exact True.intro | omega | (simp only [InK, ne_eq, and_true, true_and]; omega) | (and_intros <;> first | exact .inr trivial | exact Nat.le_refl _ | exact one1 _ | exact one5 _ _ _ _ _ | omega) | trivial)) | (simp -dsimp only [↓RP, RQ, Nat.reduceMul, reduceIte, reduceCtorEq, Nat.reduceAdd, Nat.reduceEqDiff, Nat.reduceLT, Nat.reduceLeDiff, dS, dW, gW, hs, sI_f, svIte, nsv, mi102, ↓RY, QW, Try.results89])))
       all_goals try (exfalso; omega)
       refine rawSeq (seqH_op ?_)
       (repeat' (first | with_reducible (first | apply splitVC_d <;> intro _ | apply splitVC <;> intro _) | ((with_reducible refine And.intro ?_ ?_); focus (first | exact True.intro | omega | (simp only [InK, ne_eq, and_true, true_and]; omega) | (and_intros <;> first | exact .inr trivial | exact Nat.le_refl _ | exact one1 _ | exact one5 _ _ _ _ _ | omega) | trivial)) | (simp -dsimp only [↓RP, RQ, Nat.reduceMul, reduceIte, reduceCtorEq, Nat.reduceAdd, Nat.reduceEqDiff, Nat.reduceLT, Nat.reduceLeDiff, mi102, ↓RY, QW, Try.results89])))
       refine seqH_op ?_
       (repeat' (first | with_reducible (first | apply splitVC_d <;> intro _ | apply splitVC <;> intro _) | ((with_reducible refine And.intro ?_ ?_); focus (first | exact True.intro | omega | (simp only [InK, ne_eq, and_true, true_and]; omega) | (and_intros <;> first | exact .inr trivial | exact Nat.le_refl _ | exact one1 _ | exact one5 _ _ _ _ _ | omega) | trivial)) | (simp -dsimp only [↓RP, RQ, Nat.reduceMul, reduceIte, reduceCtorEq, Nat.reduceAdd, Nat.reduceEqDiff, Nat.reduceLT, Nat.reduceLeDiff, mi102, ↓RY, QW, Try.results89])))
       refine seqH_op ?_
       (repeat' (first | with_reducible (first | apply splitVC_d <;> intro _ | apply splitVC <;> intro _) | ((with_reducible refine And.intro ?_ ?_); focus (first | exact True.intro | omega | (simp only [InK, ne_eq, and_true, true_and]; omega) | (and_intros <;> first | exact .inr trivial | exact Nat.le_refl _ | exact one1 _ | exact one5 _ _ _ _ _ | omega) | trivial)) | (simp -dsimp only [↓RP, RQ, Nat.reduceMul, reduceIte, reduceCtorEq, Nat.reduceAdd, Nat.reduceEqDiff, Nat.reduceLT, Nat.reduceLeDiff, mi102, ↓RY, QW, Try.results89])))
       refine seqH_hand rfl (que_vc (id := 62) (off := off) (n := (inn w m a s b).wait.length) (n' := off + (inn w m a s b).wait.length) (m := 1) (k := 1) (e := 3) ty25 ty3 rfl (by omega) rfl rfl rfl (by exact ⟨Nat.le_refl _, rfl⟩) (by exact one1 _) rfl (Nat.le_refl _) (by omega) (by omega) (by rw [by2]; omega) (by simp) ?_ ?_)
       ·refine seqH_op ?_
        (repeat' (first | with_reducible (first | apply splitVC_d <;> intro _ | apply splitVC <;> intro _) | ((with_reducible refine And.intro ?_ ?_); focus (first | exact True.intro | omega | (simp only [InK, ne_eq, and_true, true_and]; omega) | (and_intros <;> first | exact .inr trivial | exact Nat.le_refl _ | exact one1 _ | exact one5 _ _ _ _ _ | omega) | trivial)) | (simp -dsimp only [↓RP, RQ, Nat.reduceMul, reduceIte, reduceCtorEq, Nat.reduceAdd, Nat.reduceEqDiff, Nat.reduceLT, Nat.reduceLeDiff, seqH_nil, mi102, ↓RY, QW, Try.results89])))
        all_goals try (exfalso; omega)
        refine ⟨(b + 1, off, fun y => if y < off + (inn w m a s b).wait.length then J y else b), ⟨by show b + 1 ≤ n; omega, ?_, ?_, ?_, ?_, y5⟩, by show n - (b + 1) < n - b; omega, weak [(62, some 262)] [256] ?_ ?_ ?_⟩
        ·rw [hS]; exact up_len y1 y2
        ·rw [hS]; exact up_a y2 hab
        ·rw [hS]; simp only [List.length_append, List.length_singleton]; omega
        ·rw [hS]; exact up_J y4
        ·(simp -dsimp only [↓RP, RQ, Nat.reduceMul, reduceIte, reduceCtorEq, Nat.reduceAdd, Nat.reduceEqDiff, Nat.reduceLT, Nat.reduceLeDiff, QV, nsv, hS, app_len]); all_goals (try simp [QV, gGet_wk, hS, app_len])
        ·(simp -dsimp only [↓RP, RQ, Nat.reduceMul, reduceIte, reduceCtorEq, Nat.reduceAdd, Nat.reduceEqDiff, Nat.reduceLT, Nat.reduceLeDiff, QV, nsv, hS, app_len]); all_goals (try simp [QV, gGet_wk, hS, app_len])
         refine ⟨fun y hy => ?_, fun y hy => ?_, by omega, fun y hy => ?_⟩
         ·by_cases e : y = b
          ·simp only [upN, if_pos e]
           simp [Go.Sx.Wk, isIn, blk]
           intro z hz
           by_cases hc : z < ((inn w m a s b).ways a).length
           ·simp [hc, List.getElem?_append_left hc]
           ·obtain rfl : z = ((inn w m a s b).ways a).length := by omega
            simp
          ·simp only [upN, if_neg e]; simp [Go.Sx.Wk]
         ·by_cases e : y = b <;> simp [upN, e, sI]
         ·by_cases hc : y < off + (inn w m a s b).wait.length
          ·simp [hc]
          ·obtain rfl : y = off + (inn w m a s b).wait.length := by omega
           simp
        ·(simp -dsimp only [↓RP, RQ, Nat.reduceMul, reduceIte, reduceCtorEq, Nat.reduceAdd, Nat.reduceEqDiff, Nat.reduceLT, Nat.reduceLeDiff, QV]); all_goals (try simp [QV])
       ·refine seqH_op ?_
        (repeat' (first | with_reducible (first | apply splitVC_d <;> intro _ | apply splitVC <;> intro _) | ((with_reducible refine And.intro ?_ ?_); focus (first | exact True.intro | omega | (simp only [InK, ne_eq, and_true, true_and]; omega) | (and_intros <;> first | exact .inr trivial | exact Nat.le_refl _ | exact one1 _ | exact one5 _ _ _ _ _ | omega) | trivial)) | (simp -dsimp only [↓RP, RQ, Nat.reduceMul, reduceIte, reduceCtorEq, Nat.reduceAdd, Nat.reduceEqDiff, Nat.reduceLT, Nat.reduceLeDiff, seqH_nil, mi102, ↓RY, QW, Try.results89])))
        all_goals try (exfalso; omega)
        refine ⟨(b + 1, 0, fun y => if y < (inn w m a s b).wait.length then J (off + y) else b), ⟨by show b + 1 ≤ n; omega, ?_, ?_, ?_, ?_, Nat.zero_le _⟩, by show n - (b + 1) < n - b; omega, weak [(62, some 262)] [256] ?_ ?_ ?_⟩
        ·rw [hS]; exact up_len y1 y2
        ·rw [hS]; exact up_a y2 hab
        ·rw [hS]; simp only [List.length_append, List.length_singleton]; omega
        ·rw [hS]; exact up_J0 y4
        ·(simp -dsimp only [↓RP, RQ, Nat.reduceMul, reduceIte, reduceCtorEq, Nat.reduceAdd, Nat.reduceEqDiff, Nat.reduceLT, Nat.reduceLeDiff, QV, nsv, hS, app_len]); all_goals (try simp [QV, gGet_wk, hS, app_len])
        ·(simp -dsimp only [↓RP, RQ, Nat.reduceMul, reduceIte, reduceCtorEq, Nat.reduceAdd, Nat.reduceEqDiff, Nat.reduceLT, Nat.reduceLeDiff, QV, nsv, hS, app_len]); all_goals (try simp [QV, gGet_wk, hS, app_len])
         refine ⟨fun y hy => ?_, fun y hy => ?_, fun y hy => ?_⟩
         ·by_cases e : y = b
          ·simp only [upN, if_pos e]
           simp [Go.Sx.Wk, isIn, blk]
           intro z hz
           by_cases hc : z < ((inn w m a s b).ways a).length
           ·simp [hc, List.getElem?_append_left hc]
           ·obtain rfl : z = ((inn w m a s b).ways a).length := by omega
            simp
          ·simp only [upN, if_neg e]; simp [Go.Sx.Wk]
         ·by_cases e : y = b <;> simp [upN, e, sI]
         ·by_cases hc : y < (inn w m a s b).wait.length
          ·simp [hc]
          ·obtain rfl : y = (inn w m a s b).wait.length := by omega
           simp
        ·(simp -dsimp only [↓RP, RQ, Nat.reduceMul, reduceIte, reduceCtorEq, Nat.reduceAdd, Nat.reduceEqDiff, Nat.reduceLT, Nat.reduceLeDiff, QV]); all_goals (try simp [QV])
     | none =>
      have hl : lkI w m a b = none := by unfold lkI; rw [h1]; exact h2
      have dW : wDomF w m (Value.agg #[.int .i64 (a : Nat), .int .i64 (b : Nat)]) = false := by unfold wDomF; rw [dS]; show (true && gDom (wG w m) (kv a b)) = false; rw [gDom_kv]; unfold wG; rw [h2]; rfl
      have hS : inn w m a s (b + 1) = inn w m a s b := by show stp w m a (inn w m a s b) b = _; unfold stp; rw [hl]
      (repeat' (first | with_reducible (first | apply splitVC_d <;> intro _ | apply splitVC <;> intro _) | ((with_reducible refine And.intro ?_ ?_); focus (first | exact True.intro | omega | (simp only [InK, ne_eq, and_true, true_and]; omega) | (and_intros <;> first | exact .inr trivial | exact Nat.le_refl _ | exact one1 _ | exact one5 _ _ _ _ _ | omega) | trivial)) | (simp -dsimp only [↓RP, RQ, Nat.reduceMul, reduceIte, reduceCtorEq, Nat.reduceAdd, Nat.reduceEqDiff, Nat.reduceLT, Nat.reduceLeDiff, dS, dW, svIte, mi102, ↓RY, QW, Try.results89])))
      all_goals try (exfalso; omega)
      refine ⟨(b + 1, off, J), ⟨by show b + 1 ≤ n; omega, by rw [hS]; exact y1, by rw [hS]; exact y2, by rw [hS]; exact Nat.le_trans y3 (by omega), by rw [hS]; exact y4, y5⟩, by show n - (b + 1) < n - b; omega, weak [] [] ?_ ?_ ?_⟩
      iterate 2 focus ((simp -dsimp only [↓RP, RQ, Nat.reduceMul, reduceIte, reduceCtorEq, Nat.reduceAdd, Nat.reduceEqDiff, Nat.reduceLT, Nat.reduceLeDiff, QV, hS]); all_goals (try simp [QV, nsv_wk, gGet_wk, hS]))
      ·(simp -dsimp only [↓RP, RQ, Nat.reduceMul, reduceIte, reduceCtorEq, Nat.reduceAdd, Nat.reduceEqDiff, Nat.reduceLT, Nat.reduceLeDiff, QV]); all_goals (try simp [QV])
   ·have hbn : n = b := by omega
    subst hbn
    obtain ⟨r', hr'⟩ := inn_head (w := w) (m := m) hw n
    have hlen' : (inn w m a s n).wait.length = r'.length + 1 := by rw [hr']; rfl
    have hton : (((r'.length + 1 : Nat) : Int) - 1).toNat = r'.length := by omega
    have hn : nxt w m n s = ⟨r', (inn w m a s n).ways, (inn w m a s n).seen⟩ := by unfold nxt pop; rw [hw]; show (⟨(inn w m a s n).wait.tail, _, _⟩ : Bs) = _; rw [hr']; rfl
    (repeat' (first | with_reducible (first | apply splitVC_d <;> intro _ | apply splitVC <;> intro _) | ((with_reducible refine And.intro ?_ ?_); focus (first | exact True.intro | omega | (simp only [InK, ne_eq, and_true, true_and]; omega) | (and_intros <;> first | exact .inr trivial | exact Nat.le_refl _ | exact one1 _ | exact one5 _ _ _ _ _ | omega) | trivial)) | (simp -dsimp only [↓RP, RQ, Nat.reduceMul, reduceIte, reduceCtorEq, Nat.reduceAdd, Nat.reduceEqDiff, Nat.reduceLT, Nat.reduceLeDiff, hlen', hton, mi102, ↓RY, QW, Try.results89])))
    all_goals try (exfalso; omega)
    refine ⟨⟨f, nxt w m n s, done ++ [a], off + 1, J⟩, ⟨hnext, bf_next z2 hw, by simp only [List.length_append, List.length_singleton]; omega, fun y => by rw [hn]; simp only [List.length_append, List.length_singleton]; exact y1 y, fun i hi => ?_, by simp only [List.length_append, List.length_singleton]; omega⟩, by show f < f + 1; omega, weak [] [] ?_ ?_ ?_⟩
    ·rw [hn] at hi ⊢
     have := y4 (i + 1) (by rw [hlen']; simp only [] at hi; omega)
     rw [hr', List.getD_cons_succ] at this
     rw [show off + 1 + i = off + (i + 1) by omega]
     exact this
    ·(simp -dsimp only [↓RP, RQ, Nat.reduceMul, reduceIte, reduceCtorEq, Nat.reduceAdd, Nat.reduceEqDiff, Nat.reduceLT, Nat.reduceLeDiff, QV, hn]); all_goals (try simp [QV, gGet_wk, hn])
    ·(simp -dsimp only [↓RP, RQ, Nat.reduceMul, reduceIte, reduceCtorEq, Nat.reduceAdd, Nat.reduceEqDiff, Nat.reduceLT, Nat.reduceLeDiff, QV, hn]); all_goals (try simp [QV, nsv_wk, gGet_wk, hn]); all_goals (try omega)
    ·(simp -dsimp only [↓RP, RQ, Nat.reduceMul, reduceIte, reduceCtorEq, Nat.reduceAdd, Nat.reduceEqDiff, Nat.reduceLT, Nat.reduceLeDiff, QV]); all_goals (try simp [QV])
end Go.He
end
section
set_option linter.unusedSimpArgs false
set_option linter.unusedVariables false
set_option linter.defProp false
set_option maxRecDepth 100000
set_option maxHeartbeats 16000000
namespace Go.He
open Go.Proofs
open Go.Sx
theorem way_len {w : Nat → Wd} {m n x to : Nat} (hf : Fit w m n) (hx : x < n) {l : List Nat} (h : way w m n x to = some l) : l.length ≤ n := by
 obtain ⟨hw, hl⟩ := way_some hf hx h
 obtain ⟨e, he, hg⟩ := go_short hf (show (0 : Int) ≤ (x : Int) ∧ (x : Int) < n by omega) hw.go
 have := hl e hg
 omega
theorem cI_S (w : Nat → Wd) (m n one : Nat) (best : List Nat) (t : Nat) : cI w m n one best (t + 1) = cstep w m n one (cI w m n one best t) t := rfl
theorem cO_S (w : Nat → Wd) (m n o : Nat) : cO w m n (o + 1) = cI w m n o (cO w m n o) n := rfl
theorem cI_len {w : Nat → Wd} {m n one : Nat} (hf : Fit w m n) {best : List Nat} (hb : best.length ≤ n + 1) : ∀ t, t ≤ n → (cI w m n one best t).length ≤ n + 1
 | 0, _ => hb
 | t + 1, ht => by
  rw [cI_S]
  have ih := cI_len (one := one) hf hb t (by omega)
  unfold cstep
  cases stI w one t m with
  | none => exact ih
  | some i =>
   cases hw : way w m n t one with
   | none => exact ih
   | some l =>
    show (if _ then _ else i :: l).length ≤ n + 1
    split
    ·exact ih
    ·have := way_len hf (by omega) hw; simp; omega
theorem cO_len' {w : Nat → Wd} {m n : Nat} (hf : Fit w m n) : ∀ o, (cO w m n o).length ≤ n + 1
 | 0 => by simp [cO]
 | o + 1 => by rw [cO_S]; exact cI_len hf (cO_len' hf o) n (Nat.le_refl _)
theorem cons_get (i : Nat) (l : List Nat) : ∀ (z : Nat), z < l.length + 1 → (if z < 1 then [SV.val (.int .i64 (i : Nat))][z]?.getD SV.top else SV.val (.int .i64 (l[z - 1]?.getD 0 : Nat))) = SV.val (.int .i64 (((i :: l)[z]?.getD 0 : Nat))) := by
 intro z hz
 cases z with
 | zero => rfl
 | succ z => rw [if_neg (by omega)]; simp
theorem c65 (n : Nat) (h2 : 2 ≤ n) (h5 : n ≤ 5) (m : Nat) (hm : m ≤ 12) (w : Nat → Wd) (hw : Fit w m n) : Contract Try.prog 65 [pref n m w] (nsv (cO w m n n)) := by
 refine contract_of Try.func65 rfl (by kernel_rfl) follows (by kernel_rfl) _ _ (by rw [Try.ntmps65]; simp) (by simp [OldL, Old, QV, pref]) ?_
 unfold pref
 have hlO := cO_len' hw n
 (repeat' (first | with_reducible (first | apply splitVC_d <;> intro _ | apply splitVC <;> intro _) | ((with_reducible refine And.intro ?_ ?_); focus (first | exact True.intro | omega | (simp only [InK, ne_eq, and_true, true_and]; omega) | (and_intros <;> first | exact .inr trivial | exact Nat.le_refl _ | exact one1 _ | exact one5 _ _ _ _ _ | exact .inl rfl | omega) | trivial)) | (simp -dsimp only [↓RP, RQ, Nat.reduceMul, reduceIte, reduceCtorEq, Nat.reduceAdd, Nat.reduceEqDiff, Nat.reduceLT, Nat.reduceLeDiff, mi102, nsv, QW, Try.results65])))
 refine callVC (c88 n m (by omega) w) (by (simp -dsimp only [↓RP, RQ, Nat.reduceMul, reduceIte, reduceCtorEq, Nat.reduceAdd, Nat.reduceEqDiff, Nat.reduceLT, Nat.reduceLeDiff, QV, pref]); all_goals (try simp [QV])) (by (simp -dsimp only [↓RP, RQ, Nat.reduceMul, reduceIte, reduceCtorEq, Nat.reduceAdd, Nat.reduceEqDiff, Nat.reduceLT, Nat.reduceLeDiff, QV]); all_goals (try simp [QV, gGet_fresh])) ?_
 (repeat' (first | with_reducible (first | apply splitVC_d <;> intro _ | apply splitVC <;> intro _) | ((with_reducible refine And.intro ?_ ?_); focus (first | exact True.intro | omega | (simp only [InK, ne_eq, and_true, true_and]; omega) | (and_intros <;> first | exact .inr trivial | exact Nat.le_refl _ | exact one1 _ | exact one5 _ _ _ _ _ | exact .inl rfl | omega) | trivial)) | (simp -dsimp only [↓RP, RQ, Nat.reduceMul, reduceIte, reduceCtorEq, Nat.reduceAdd, Nat.reduceEqDiff, Nat.reduceLT, Nat.reduceLeDiff, mi102, nsv, QW, Try.results65])))
 refine loop_vc (fun (one : Nat) => one ≤ n) (fun one => ⟨[(0, .ref false 2 (fun j => rf n m w j)), (3, .cmp true kfP (gDom (sG w m)) (gGet (sG w m))), (4, .cmp true kfP (wDomF w m) (gGet (wG w m))), (5, nsv (cO w m n one)), (21, .val (.int .i64 (n : Nat))), (22, .val (.int .i64 (one : Nat)))], [], 40⟩) (fun one => n - one) 0 (Nat.zero_le _) (weak [] [] ?_ ?_ ?_) fun one ho => ?_
 iterate 3 focus ((simp -dsimp only [↓RP, RQ, Nat.reduceMul, reduceIte, reduceCtorEq, Nat.reduceAdd, Nat.reduceEqDiff, Nat.reduceLT, Nat.reduceLeDiff, QV, cO, nsv]); all_goals (try simp [QV, gGet_wk, nsv_wk, cO, nsv]))
 by_cases hlt : one < n
 ·have hl1 := cO_len' hw one
  (repeat' (first | with_reducible (first | apply splitVC_d <;> intro _ | apply splitVC <;> intro _) | ((with_reducible refine And.intro ?_ ?_); focus (first | exact True.intro | omega | (simp only [InK, ne_eq, and_true, true_and]; omega) | (and_intros <;> first | exact .inr trivial | exact Nat.le_refl _ | exact one1 _ | exact one5 _ _ _ _ _ | exact .inl rfl | omega) | trivial)) | (simp -dsimp only [↓RP, RQ, Nat.reduceMul, reduceIte, reduceCtorEq, Nat.reduceAdd, Nat.reduceEqDiff, Nat.reduceLT, Nat.reduceLeDiff, mi102, nsv, QW, Try.results65])))
  all_goals try (exfalso; omega)
  refine loop_vc (fun (two : Nat) => two ≤ n) (fun two => ⟨[(0, .ref false 2 (fun j => rf n m w j)), (3, .cmp true kfP (gDom (sG w m)) (gGet (sG w m))), (4, .cmp true kfP (wDomF w m) (gGet (wG w m))), (5, nsv (cI w m n one (cO w m n one) two)), (6, .val (.int .i64 (one : Nat))), (21, .val (.int .i64 (n : Nat))), (22, .val (.int .i64 (one : Nat))), (29, .val (.int .i64 (n : Nat))), (30, .val (.int .i64 (two : Nat)))], [], 60⟩) (fun two => n - two) 0 (Nat.zero_le _) (weak [] [] ?_ ?_ ?_) fun two ht => ?_
  iterate 3 focus ((simp -dsimp only [↓RP, RQ, Nat.reduceMul, reduceIte, reduceCtorEq, Nat.reduceAdd, Nat.reduceEqDiff, Nat.reduceLT, Nat.reduceLeDiff, QV, cI, nsv]); all_goals (try simp [QV, gGet_wk, nsv_wk, cI]))
  have hl2 := cI_len (one := one) hw hl1 two ht
  by_cases hlt2 : two < n
  ·cases h1 : stI w one two m with
   | none =>
    have dS : gDom (sG w m) (Value.agg #[.int .i64 (one : Nat), .int .i64 (two : Nat)]) = false := by show gDom (sG w m) (kv one two) = false; rw [gDom_kv]; unfold sG; rw [h1]; rfl
    have eq : cI w m n one (cO w m n one) (two + 1) = cI w m n one (cO w m n one) two := by rw [cI_S]; unfold cstep; rw [h1]
    (repeat' (first | with_reducible (first | apply splitVC_d <;> intro _ | apply splitVC <;> intro _) | ((with_reducible refine And.intro ?_ ?_); focus (first | exact True.intro | omega | (simp only [InK, ne_eq, and_true, true_and]; omega) | (and_intros <;> first | exact .inr trivial | exact Nat.le_refl _ | exact one1 _ | exact one5 _ _ _ _ _ | exact .inl rfl | omega) | trivial)) | (simp -dsimp only [↓RP, RQ, Nat.reduceMul, reduceIte, reduceCtorEq, Nat.reduceAdd, Nat.reduceEqDiff, Nat.reduceLT, Nat.reduceLeDiff, dS, svIte, mi102, nsv, QW, Try.results65])))
    all_goals try (exfalso; omega)
    refine ⟨two + 1, by omega, by omega, weak [] [] ?_ ?_ ?_⟩
    ·(simp -dsimp only [↓RP, RQ, Nat.reduceMul, reduceIte, reduceCtorEq, Nat.reduceAdd, Nat.reduceEqDiff, Nat.reduceLT, Nat.reduceLeDiff, QV, eq]); all_goals (try simp [QV, gGet_wk, nsv_wk, eq])
    ·(simp -dsimp only [↓RP, RQ, Nat.reduceMul, reduceIte, reduceCtorEq, Nat.reduceAdd, Nat.reduceEqDiff, Nat.reduceLT, Nat.reduceLeDiff, QV]); all_goals (try simp [QV, gGet_wk, nsv_wk])
    ·(simp -dsimp only [↓RP, RQ, Nat.reduceMul, reduceIte, reduceCtorEq, Nat.reduceAdd, Nat.reduceEqDiff, Nat.reduceLT, Nat.reduceLeDiff, QV]); all_goals (try simp [QV])
   | some i =>
    have him := (stI_some h1).1
    have dS : gDom (sG w m) (Value.agg #[.int .i64 (one : Nat), .int .i64 (two : Nat)]) = true := by show gDom (sG w m) (kv one two) = true; rw [gDom_kv]; unfold sG; rw [h1]; rfl
    have gS : gGet (sG w m) (Value.agg #[.int .i64 (one : Nat), .int .i64 (two : Nat)]) = .val (.int .i64 (i : Nat)) := by show gGet (sG w m) (kv one two) = _; rw [gGet_kv]; unfold sG; rw [h1]; rfl
    (repeat' (first | with_reducible (first | apply splitVC_d <;> intro _ | apply splitVC <;> intro _) | ((with_reducible refine And.intro ?_ ?_); focus (first | exact True.intro | omega | (simp only [InK, ne_eq, and_true, true_and]; omega) | (and_intros <;> first | exact .inr trivial | exact Nat.le_refl _ | exact one1 _ | exact one5 _ _ _ _ _ | exact .inl rfl | omega) | trivial)) | (simp -dsimp only [↓RP, RQ, Nat.reduceMul, reduceIte, reduceCtorEq, Nat.reduceAdd, Nat.reduceEqDiff, Nat.reduceLT, Nat.reduceLeDiff, dS, gS, svIte, mi102, nsv, QW, Try.results65])))
    all_goals try (exfalso; omega)
    refine callVC (c89 n h5 m hm w two one hlt2 hlt) (by (simp -dsimp only [↓RP, RQ, Nat.reduceMul, reduceIte, reduceCtorEq, Nat.reduceAdd, Nat.reduceEqDiff, Nat.reduceLT, Nat.reduceLeDiff, QV, pref, I]); all_goals (try simp [QV, gGet_sub])) (by (simp -dsimp only [↓RP, RQ, Nat.reduceMul, reduceIte, reduceCtorEq, Nat.reduceAdd, Nat.reduceEqDiff, Nat.reduceLT, Nat.reduceLeDiff, QV, nsv, B]); all_goals (try simp [QV])) ?_
    cases hwy : way w m n two one with
    | none =>
     have eq : cI w m n one (cO w m n one) (two + 1) = cI w m n one (cO w m n one) two := by rw [cI_S]; unfold cstep; rw [h1, hwy]
     have fs : (none : Option (List Nat)).isSome = false := rfl
     (repeat' (first | with_reducible (first | apply splitVC_d <;> intro _ | apply splitVC <;> intro _) | ((with_reducible refine And.intro ?_ ?_); focus (first | exact True.intro | omega | (simp only [InK, ne_eq, and_true, true_and]; omega) | (and_intros <;> first | exact .inr trivial | exact Nat.le_refl _ | exact one1 _ | exact one5 _ _ _ _ _ | exact .inl rfl | omega) | trivial)) | (simp -dsimp only [↓RP, RQ, Nat.reduceMul, reduceIte, reduceCtorEq, Nat.reduceAdd, Nat.reduceEqDiff, Nat.reduceLT, Nat.reduceLeDiff, fs, svIte, mi102, nsv, QW, Try.results65])))
     all_goals try (exfalso; omega)
     refine ⟨two + 1, by omega, by omega, weak [] [] ?_ ?_ ?_⟩
     ·(simp -dsimp only [↓RP, RQ, Nat.reduceMul, reduceIte, reduceCtorEq, Nat.reduceAdd, Nat.reduceEqDiff, Nat.reduceLT, Nat.reduceLeDiff, QV, eq]); all_goals (try simp [QV, gGet_wk, nsv_wk, eq])
     ·(simp -dsimp only [↓RP, RQ, Nat.reduceMul, reduceIte, reduceCtorEq, Nat.reduceAdd, Nat.reduceEqDiff, Nat.reduceLT, Nat.reduceLeDiff, QV]); all_goals (try simp [QV, gGet_wk, nsv_wk])
     ·(simp -dsimp only [↓RP, RQ, Nat.reduceMul, reduceIte, reduceCtorEq, Nat.reduceAdd, Nat.reduceEqDiff, Nat.reduceLT, Nat.reduceLeDiff, QV]); all_goals (try simp [QV])
    | some l =>
     have hll := way_len hw hlt2 hwy
     have fs : (some l).isSome = true := rfl
     have fg : (some l).getD [] = l := rfl
     obtain ⟨bs, hbs⟩ : ∃ bs, cI w m n one (cO w m n one) two = bs := ⟨_, rfl⟩
     have eq0 : cI w m n one (cO w m n one) (two + 1) = if bs ≠ [] ∧ bs.length ≤ l.length + 1 then bs else i :: l := by rw [cI_S]; unfold cstep; rw [h1, hwy, hbs]
     rw [hbs] at hl2
     by_cases hb0 : 0 < bs.length
     ·have f1 := decide_eq_true (show (0 : Int) < (bs.length : Int) by omega)
      have hne : bs ≠ [] := fun h => by rw [h] at hb0; cases hb0
      by_cases hb1 : bs.length ≤ l.length + 1
      ·have f2 := decide_eq_true (show (bs.length : Int) ≤ (l.length : Int) + 1 by omega)
       have eq : cI w m n one (cO w m n one) (two + 1) = bs := by rw [eq0, if_pos ⟨hne, hb1⟩]
       (repeat' (first | with_reducible (first | apply splitVC_d <;> intro _ | apply splitVC <;> intro _) | ((with_reducible refine And.intro ?_ ?_); focus (first | exact True.intro | omega | (simp only [InK, ne_eq, and_true, true_and]; omega) | (and_intros <;> first | exact .inr trivial | exact Nat.le_refl _ | exact one1 _ | exact one5 _ _ _ _ _ | exact .inl rfl | omega) | trivial)) | (simp -dsimp only [↓RP, RQ, Nat.reduceMul, reduceIte, reduceCtorEq, Nat.reduceAdd, Nat.reduceEqDiff, Nat.reduceLT, Nat.reduceLeDiff, hbs, fs, fg, f1, f2, mi102, nsv, QW, Try.results65])))
       all_goals try (exfalso; omega)
       refine ⟨two + 1, by omega, by omega, weak [] [] ?_ ?_ ?_⟩
       ·(simp -dsimp only [↓RP, RQ, Nat.reduceMul, reduceIte, reduceCtorEq, Nat.reduceAdd, Nat.reduceEqDiff, Nat.reduceLT, Nat.reduceLeDiff, QV, eq, hbs]); all_goals (try simp [QV, gGet_wk, nsv_wk, eq, hbs])
       ·(simp -dsimp only [↓RP, RQ, Nat.reduceMul, reduceIte, reduceCtorEq, Nat.reduceAdd, Nat.reduceEqDiff, Nat.reduceLT, Nat.reduceLeDiff, QV]); all_goals (try simp [QV, gGet_wk, nsv_wk])
       ·(simp -dsimp only [↓RP, RQ, Nat.reduceMul, reduceIte, reduceCtorEq, Nat.reduceAdd, Nat.reduceEqDiff, Nat.reduceLT, Nat.reduceLeDiff, QV]); all_goals (try simp [QV])
      ·have f2 := decide_eq_false (show ¬ (bs.length : Int) ≤ (l.length : Int) + 1 by omega)
       have eq : cI w m n one (cO w m n one) (two + 1) = i :: l := by rw [eq0, if_neg (fun h => hb1 h.2)]
       (repeat' (first | with_reducible (first | apply splitVC_d <;> intro _ | apply splitVC <;> intro _) | ((with_reducible refine And.intro ?_ ?_); focus (first | exact True.intro | omega | (simp only [InK, ne_eq, and_true, true_and]; omega) | (and_intros <;> first | exact .inr trivial | exact Nat.le_refl _ | exact one1 _ | exact one5 _ _ _ _ _ | exact .inl rfl | omega) | trivial)) | (simp -dsimp only [↓RP, RQ, Nat.reduceMul, reduceIte, reduceCtorEq, Nat.reduceAdd, Nat.reduceEqDiff, Nat.reduceLT, Nat.reduceLeDiff, hbs, fs, fg, f1, f2, mi102, nsv, QW, Try.results65])))
       all_goals try (exfalso; omega)
       ·have e2 : cO w m n n = i :: l := by
         have h2 : (cI w m n one (cO w m n one) (two + 1)).length = 2 := by rw [eq]; simp; omega
         have e3 := cI_two hw h2 (u := n) (by omega) (Nat.le_refl n)
         have e4 : cO w m n (one + 1) = i :: l := by rw [cO_S, e3, eq]
         rw [cO_two hw (o := one + 1) (by rw [cO_S, e3]; exact h2) (u := n) (by omega) (Nat.le_refl n), e4]
        refine ⟨⟨Nat.le_refl _, .inr trivial, Nat.le_refl _, fun a j ha hj => ?_⟩, ?_, ?_, fun a j ha hj => ?_⟩
        ·split
         ·obtain rfl : a = 0 := by omega
          obtain rfl : j = 0 := by omega
          rfl
         ·rfl
        ·rw [e2]; simp; omega
        ·rw [e2]; simp; omega
        ·rw [e2] at ha ⊢
         have := cons_get i l a ha
         obtain rfl : j = 0 := by omega
         simp at ha
         rw [if_pos (by omega)]
         simpa using this
       refine ⟨two + 1, by omega, by omega, weak [] [104] ?_ ?_ ?_⟩
       ·(simp -dsimp only [↓RP, RQ, Nat.reduceMul, reduceIte, reduceCtorEq, Nat.reduceAdd, Nat.reduceEqDiff, Nat.reduceLT, Nat.reduceLeDiff, QV, eq]); all_goals (try simp [QV, gGet_wk, nsv_wk, eq, Go.Sx.Wk, isIn, blk]); all_goals (refine ⟨by omega, by omega, ?_⟩; intro a ha; have := cons_get i l a ha; simpa only [Nat.lt_one_iff] using this)
       ·(simp -dsimp only [↓RP, RQ, Nat.reduceMul, reduceIte, reduceCtorEq, Nat.reduceAdd, Nat.reduceEqDiff, Nat.reduceLT, Nat.reduceLeDiff, QV]); all_goals (try simp [QV, gGet_wk, nsv_wk])
       ·(simp -dsimp only [↓RP, RQ, Nat.reduceMul, reduceIte, reduceCtorEq, Nat.reduceAdd, Nat.reduceEqDiff, Nat.reduceLT, Nat.reduceLeDiff, QV]); all_goals (try simp [QV])
     ·have f1 := decide_eq_false (show ¬ (0 : Int) < (bs.length : Int) by omega)
      have hne : bs = [] := List.length_eq_zero_iff.1 (by omega)
      have eq : cI w m n one (cO w m n one) (two + 1) = i :: l := by rw [eq0, if_neg (fun h => h.1 hne)]
      (repeat' (first | with_reducible (first | apply splitVC_d <;> intro _ | apply splitVC <;> intro _) | ((with_reducible refine And.intro ?_ ?_); focus (first | exact True.intro | omega | (simp only [InK, ne_eq, and_true, true_and]; omega) | (and_intros <;> first | exact .inr trivial | exact Nat.le_refl _ | exact one1 _ | exact one5 _ _ _ _ _ | exact .inl rfl | omega) | trivial)) | (simp -dsimp only [↓RP, RQ, Nat.reduceMul, reduceIte, reduceCtorEq, Nat.reduceAdd, Nat.reduceEqDiff, Nat.reduceLT, Nat.reduceLeDiff, hbs, fs, fg, f1, mi102, nsv, QW, Try.results65])))
      all_goals try (exfalso; omega)
      ·have e2 : cO w m n n = i :: l := by
        have h2 : (cI w m n one (cO w m n one) (two + 1)).length = 2 := by rw [eq]; simp; omega
        have e3 := cI_two hw h2 (u := n) (by omega) (Nat.le_refl n)
        have e4 : cO w m n (one + 1) = i :: l := by rw [cO_S, e3, eq]
        rw [cO_two hw (o := one + 1) (by rw [cO_S, e3]; exact h2) (u := n) (by omega) (Nat.le_refl n), e4]
       refine ⟨⟨Nat.le_refl _, .inr trivial, Nat.le_refl _, fun a j ha hj => ?_⟩, ?_, ?_, fun a j ha hj => ?_⟩
       ·split
        ·obtain rfl : a = 0 := by omega
         obtain rfl : j = 0 := by omega
         rfl
        ·rfl
       ·rw [e2]; simp; omega
       ·rw [e2]; simp; omega
       ·rw [e2] at ha ⊢
        have := cons_get i l a ha
        obtain rfl : j = 0 := by omega
        simp at ha
        rw [if_pos (by omega)]
        simpa using this
      refine ⟨two + 1, by omega, by omega, weak [] [104] ?_ ?_ ?_⟩
      ·(simp -dsimp only [↓RP, RQ, Nat.reduceMul, reduceIte, reduceCtorEq, Nat.reduceAdd, Nat.reduceEqDiff, Nat.reduceLT, Nat.reduceLeDiff, QV, eq]); all_goals (try simp [QV, gGet_wk, nsv_wk, eq, Go.Sx.Wk, isIn, blk]); all_goals (refine ⟨by omega, by omega, ?_⟩; intro a ha; have := cons_get i l a ha; simpa only [Nat.lt_one_iff] using this)
      ·(simp -dsimp only [↓RP, RQ, Nat.reduceMul, reduceIte, reduceCtorEq, Nat.reduceAdd, Nat.reduceEqDiff, Nat.reduceLT, Nat.reduceLeDiff, QV]); all_goals (try simp [QV, gGet_wk, nsv_wk])
      ·(simp -dsimp only [↓RP, RQ, Nat.reduceMul, reduceIte, reduceCtorEq, Nat.reduceAdd, Nat.reduceEqDiff, Nat.reduceLT, Nat.reduceLeDiff, QV]); all_goals (try simp [QV])
  ·have hnt : n = two := by omega
   subst hnt
   rw [← cO_S]
   (repeat' (first | with_reducible (first | apply splitVC_d <;> intro _ | apply splitVC <;> intro _) | ((with_reducible refine And.intro ?_ ?_); focus (first | exact True.intro | omega | (simp only [InK, ne_eq, and_true, true_and]; omega) | (and_intros <;> first | exact .inr trivial | exact Nat.le_refl _ | exact one1 _ | exact one5 _ _ _ _ _ | exact .inl rfl | omega) | trivial)) | (simp -dsimp only [↓RP, RQ, Nat.reduceMul, reduceIte, reduceCtorEq, Nat.reduceAdd, Nat.reduceEqDiff, Nat.reduceLT, Nat.reduceLeDiff, mi102, nsv, QW, Try.results65])))
   all_goals try (exfalso; omega)
   refine ⟨one + 1, by omega, by omega, weak [] [] ?_ ?_ ?_⟩
   iterate 2 focus ((simp -dsimp only [↓RP, RQ, Nat.reduceMul, reduceIte, reduceCtorEq, Nat.reduceAdd, Nat.reduceEqDiff, Nat.reduceLT, Nat.reduceLeDiff, QV]); all_goals (try simp [QV, gGet_wk, nsv_wk]))
   ·(simp -dsimp only [↓RP, RQ, Nat.reduceMul, reduceIte, reduceCtorEq, Nat.reduceAdd, Nat.reduceEqDiff, Nat.reduceLT, Nat.reduceLeDiff, QV]); all_goals (try simp [QV])
 ·have hno : n = one := by omega
  subst hno
  (repeat' (first | with_reducible (first | apply splitVC_d <;> intro _ | apply splitVC <;> intro _) | ((with_reducible refine And.intro ?_ ?_); focus (first | exact True.intro | omega | (simp only [InK, ne_eq, and_true, true_and]; omega) | (and_intros <;> first | exact .inr trivial | exact Nat.le_refl _ | exact one1 _ | exact one5 _ _ _ _ _ | exact .inl rfl | omega) | trivial)) | (simp -dsimp only [↓RP, RQ, Nat.reduceMul, reduceIte, reduceCtorEq, Nat.reduceAdd, Nat.reduceEqDiff, Nat.reduceLT, Nat.reduceLeDiff, mi102, nsv, QW, Try.results65])))
  all_goals try (exfalso; omega)
  exact fun i j hi hj => by rw [if_pos (by omega)]
def ciL (N : Int) (m : Nat) (w : Nat → Wd) : List Nat := if ckR N m w = 0 then cO w m N.toNat N.toNat else []
def ciE (N : Int) (m : Nat) (w : Nat → Wd) : Int := if ckR N m w ≠ 0 then ckR N m w else if (cO w m N.toNat N.toNat).length = 0 then 11 else 0
theorem c28 (N : Int) (m : Nat) (w : Nat → Wd) (hm : m ≤ 1000000) : Contract Try.prog 28 [rsv N m w] (.tup [nsv (ciL N m w), I (ciE N m w)]) := by
 refine contract_of Try.func28 rfl (by kernel_rfl) follows (by kernel_rfl) _ _ (by rw [Try.ntmps28]; simp) (by simp [OldL, Old, QV, rsv, ints]) ?_
 unfold ciL ciE
 by_cases he : ckR N m w = 0
 ·have ⟨n2, n5, m12, _⟩ := ckR_ok he
  obtain ⟨n, rfl⟩ : ∃ n : Nat, N = n := ⟨N.toNat, by omega⟩
  have hw := ckR_fit he
  have hd : (!decide (ckR (n : Int) m w = 0)) = false := by simp [he]
  rw [if_pos he, if_neg (show ¬ ckR (n : Int) m w ≠ 0 from fun h => h he), Int.toNat_natCast]
  unfold rsv I
  (repeat' (first | with_reducible (first | apply splitVC_d <;> intro _ | apply splitVC <;> intro _) | ((with_reducible refine And.intro ?_ ?_); focus (first | exact True.intro | omega | (simp only [InK, ne_eq, and_true, true_and]; omega) | trivial)) | (simp -dsimp only [↓RP, RQ, Nat.reduceMul, reduceIte, reduceCtorEq, Nat.reduceAdd, Nat.reduceEqDiff, Nat.reduceLT, Nat.reduceLeDiff, nsv, QW, Try.results28])))
  refine callVC_old (c56 n m w hm he) (by (simp -dsimp only [↓RP, RQ, Nat.reduceMul, reduceIte, reduceCtorEq, Nat.reduceAdd, Nat.reduceEqDiff, Nat.reduceLT, Nat.reduceLeDiff, QX]); all_goals (try simp [QV, Go.Sx.Sub, Go.Sx.SubL]); all_goals (try exact lit2 _ _)) ?_
  (repeat' (first | with_reducible (first | apply splitVC_d <;> intro _ | apply splitVC <;> intro _) | ((with_reducible refine And.intro ?_ ?_); focus (first | exact True.intro | omega | (simp only [InK, ne_eq, and_true, true_and]; omega) | trivial)) | (simp -dsimp only [↓RP, RQ, Nat.reduceMul, reduceIte, reduceCtorEq, Nat.reduceAdd, Nat.reduceEqDiff, Nat.reduceLT, Nat.reduceLeDiff, nsv, QW, Try.results28])))
  refine callVC (c65 n (by omega) (by omega) m (by omega) w hw) (by (simp -dsimp only [↓RP, RQ, Nat.reduceMul, reduceIte, reduceCtorEq, Nat.reduceAdd, Nat.reduceEqDiff, Nat.reduceLT, Nat.reduceLeDiff, QV, pref]); all_goals (try simp [QV])) (by (simp -dsimp only [↓RP, RQ, Nat.reduceMul, reduceIte, reduceCtorEq, Nat.reduceAdd, Nat.reduceEqDiff, Nat.reduceLT, Nat.reduceLeDiff, QV, nsv]); all_goals (try simp [QV])) ?_
  (repeat' (first | with_reducible (first | apply splitVC_d <;> intro _ | apply splitVC <;> intro _) | ((with_reducible refine And.intro ?_ ?_); focus (first | exact True.intro | omega | (simp only [InK, ne_eq, and_true, true_and]; omega) | trivial)) | (simp -dsimp only [↓RP, RQ, Nat.reduceMul, reduceIte, reduceCtorEq, Nat.reduceAdd, Nat.reduceEqDiff, Nat.reduceLT, Nat.reduceLeDiff, nsv, QW, Try.results28])))
  ·rename_i h0
   have h0 : (cO w m n n).length = 0 := by omega
   rw [if_pos h0]
   all_goals first | exact ⟨h0, rfl⟩ | simp [h0]
  ·rename_i h0
   rw [if_neg (show ¬ (cO w m n n).length = 0 by omega)]
   all_goals simp
 ·rw [if_neg he, if_pos he]
  have hd : (!decide (ckR N m w = 0)) = true := by simp [he]
  unfold rsv I
  (repeat' (first | with_reducible (first | apply splitVC_d <;> intro _ | apply splitVC <;> intro _) | ((with_reducible refine And.intro ?_ ?_); focus (first | exact True.intro | omega | (simp only [InK, ne_eq, and_true, true_and]; omega) | trivial)) | (simp -dsimp only [↓RP, RQ, Nat.reduceMul, reduceIte, reduceCtorEq, Nat.reduceAdd, Nat.reduceEqDiff, Nat.reduceLT, Nat.reduceLeDiff, hd, nsv, QW, Try.results28])))
  refine callVC_old (c56e N m w hm he) (by (simp -dsimp only [↓RP, RQ, Nat.reduceMul, reduceIte, reduceCtorEq, Nat.reduceAdd, Nat.reduceEqDiff, Nat.reduceLT, Nat.reduceLeDiff, QX]); all_goals (try simp [QV, Go.Sx.Sub, Go.Sx.SubL]); all_goals (try exact lit2 _ _)) ?_
  (repeat' (first | with_reducible (first | apply splitVC_d <;> intro _ | apply splitVC <;> intro _) | ((with_reducible refine And.intro ?_ ?_); focus (first | exact True.intro | omega | (simp only [InK, ne_eq, and_true, true_and]; omega) | trivial)) | (simp -dsimp only [↓RP, RQ, Nat.reduceMul, reduceIte, reduceCtorEq, Nat.reduceAdd, Nat.reduceEqDiff, Nat.reduceLT, Nat.reduceLeDiff, hd, nsv, QW, Try.results28])))
  all_goals simp
end Go.He
end
