/- A part of the proof. -/
import Derived.Test.YtpdebflfimmnpaaHE
section
set_option linter.unusedSimpArgs false
set_option linter.unusedVariables false
set_option linter.defProp false
set_option maxRecDepth 100000
set_option maxHeartbeats 16000000
namespace Go.He
open Go.Proofs
open Go.Sx
end Go.He
end
section
set_option linter.unusedSimpArgs false
set_option linter.unusedVariables false
set_option linter.defProp false
set_option maxRecDepth 100000
set_option maxHeartbeats 16000000
namespace Go.He
open Go.Proofs
open Go.Sx
def kv (a b : Int) : Value := .agg #[.int .i64 a, .int .i64 b]
def k1 (v : Value) : Int := match v with | .agg cs => (match cs.toList with | [.int _ n, _] => n | _ => 0) | _ => 0
def k2 (v : Value) : Int := match v with | .agg cs => (match cs.toList with | [_, .int _ n] => n | _ => 0) | _ => 0
abbrev kfP : Value → Bool := keyFit true [Lf.i .i64, Lf.i .i64]
theorem kf_kv (a b : Int) : kfP (kv a b) = true := rfl
theorem k1_kv (a b : Int) : k1 (kv a b) = a := rfl
theorem k2_kv (a b : Int) : k2 (kv a b) = b := rfl
theorem kf_spec {v : Value} (h : kfP v = true) : v = kv (k1 v) (k2 v) := by
 unfold kfP keyFit at h
 cases v with
 | agg cs =>
  simp only [] at h
  obtain ⟨l⟩ := cs
  match l, h with
  | [.int .i64 n, .int .i64 k], h => rfl
 | _ => cases h
theorem eqK_kv {a b : Int} {v : Value} : eqK (kv a b) v = true ↔ v = kv a b := by
 constructor
 ·intro h; exact (eqK_eq h).symm
 ·rintro rfl; simp [eqK, kv, seqVs, seqV]
def oI : Option Nat → SV
 | some n => I n
 | none => .top
def gDom (g : Int → Int → Option Nat) (v : Value) : Bool := kfP v && (g (k1 v) (k2 v)).isSome
def gGet (g : Int → Int → Option Nat) (v : Value) : SV := if kfP v = true then oI (g (k1 v) (k2 v)) else .top
theorem gDom_kv (g : Int → Int → Option Nat) (a b : Int) : gDom g (kv a b) = (g a b).isSome := by unfold gDom; rw [kf_kv, k1_kv, k2_kv]; rfl
theorem gGet_kv (g : Int → Int → Option Nat) (a b : Int) : gGet g (kv a b) = oI (g a b) := by unfold gGet; rw [if_pos (kf_kv a b), k1_kv, k2_kv]
theorem gDom_0 {g : Int → Int → Option Nat} (h : ∀ a b, g a b = none) : gDom g = fun _ => false := by funext v; unfold gDom; rw [h]; simp
theorem gGet_0 {g : Int → Int → Option Nat} (h : ∀ a b, g a b = none) : gGet g = fun _ => .top := by funext v; unfold gGet; rw [h]; simp [oI]
def putG (g : Int → Int → Option Nat) (a b : Int) (i : Nat) (x y : Int) : Option Nat := if a = x ∧ b = y then some i else g x y
theorem gDom_put (g : Int → Int → Option Nat) (a b : Int) (i : Nat) : putDom (gDom g) (.agg #[.int .i64 a, .int .i64 b]) = gDom (putG g a b i) := by
 funext v
 show putDom (gDom g) (kv a b) v = _
 unfold putDom
 cases he : eqK (kv a b) v with
 | true => rw [eqK_kv.1 he, gDom_kv, gDom_kv]; unfold putG; rw [if_pos ⟨rfl, rfl⟩]; rfl
 | false =>
  rw [Bool.false_or]
  unfold gDom
  cases hk : kfP v with
  | false => rfl
  | true =>
   unfold putG
   rw [if_neg (fun ⟨e1, e2⟩ => by rw [eqK_kv.2 (by rw [e1, e2]; exact kf_spec hk)] at he; cases he)]
theorem gGet_put (g : Int → Int → Option Nat) (a b : Int) (i : Nat) : putGet (gGet g) (.agg #[.int .i64 a, .int .i64 b]) (.val (.int .i64 (i : Nat))) = gGet (putG g a b i) := by
 funext v
 show putGet (gGet g) (kv a b) _ v = _
 unfold putGet svIte
 cases he : eqK (kv a b) v with
 | true => rw [eqK_kv.1 he, gGet_kv, gGet_kv, if_pos rfl]; unfold putG; rw [if_pos ⟨rfl, rfl⟩]; rfl
 | false =>
  rw [if_neg (by decide)]
  unfold gGet
  cases hk : kfP v with
  | false => rfl
  | true =>
   show oI (g (k1 v) (k2 v)) = oI (if a = k1 v ∧ b = k2 v then some i else g (k1 v) (k2 v))
   rw [if_neg (fun ⟨e1, e2⟩ => by rw [eqK_kv.2 (by rw [e1, e2]; exact kf_spec hk)] at he; cases he)]
def sG (w : Nat → Wd) (i : Nat) (a b : Int) : Option Nat := stI w a b i
def wG (w : Nat → Wd) (i : Nat) (a b : Int) : Option Nat := wkI w a b i
theorem sG_S {w : Nat → Wd} {i : Nat} (h : (w i).k = 0) : putG (sG w i) (w i).a (w i).b i = sG w (i + 1) := by
 funext a b; unfold putG sG; simp only [stI]
 by_cases c : (w i).a = a ∧ (w i).b = b
 ·rw [if_pos c, if_pos ⟨h, c⟩]
 ·rw [if_neg c, if_neg (fun h2 => c h2.2)]
theorem sG_no {w : Nat → Wd} {i : Nat} (h : (w i).k ≠ 0) : sG w (i + 1) = sG w i := by
 funext a b; unfold sG; simp only [stI]; rw [if_neg (fun h2 => h h2.1)]
theorem wG_no {w : Nat → Wd} {i : Nat} (h : (w i).k = 0) : wG w (i + 1) = wG w i := by
 funext a b; unfold wG; simp only [wkI]; rw [if_neg (fun h2 => h2.1 h)]
theorem wG_1 {w : Nat → Wd} {i : Nat} (h : (w i).k = 1) : putG (putG (wG w i) (w i).a (w i).b i) (w i).b (w i).a i = wG w (i + 1) := by
 funext a b; unfold putG wG; simp only [wkI]
 by_cases c : (w i).b = a ∧ (w i).a = b
 ·rw [if_pos c, if_pos ⟨by omega, .inr ⟨h, c⟩⟩]
 ·rw [if_neg c]
  by_cases d : (w i).a = a ∧ (w i).b = b
  ·rw [if_pos d, if_pos ⟨by omega, .inl d⟩]
  ·rw [if_neg d, if_neg (fun h2 => h2.2.elim d fun h3 => c h3.2)]
theorem wG_2 {w : Nat → Wd} {i : Nat} (h : (w i).k ≠ 0) (h1 : (w i).k ≠ 1) : putG (wG w i) (w i).a (w i).b i = wG w (i + 1) := by
 funext a b; unfold putG wG; simp only [wkI]
 by_cases d : (w i).a = a ∧ (w i).b = b
 ·rw [if_pos d, if_pos ⟨h, .inl d⟩]
 ·rw [if_neg d, if_neg (fun h2 => h2.2.elim d fun h3 => h1 h3.1)]
def lDom (w : Nat → Wd) (m : Nat) (gone : Value → Bool) (v : Value) : Bool := !gone v && gDom (wG w m) v
theorem cut_gone {w : Nat → Wd} {m : Nat} {gone : Value → Bool} (k : Value) (a b : Int) (hk : k = kv a b) : cutDom (lDom w m gone) k = lDom w m (fun v => eqK k v || gone v) := by
 funext v
 show (!eqK k v && (!gone v && gDom (wG w m) v)) = (!(eqK k v || gone v) && gDom (wG w m) v)
 rw [Bool.not_or, Bool.and_assoc]
def wDomF (w : Nat → Wd) (m : Nat) (v : Value) : Bool := !gDom (sG w m) v && gDom (wG w m) v
theorem gGet_wk (hp : List (Nat × Blk)) (m : Nat → Option Nat) (nn : Nat) (sl : Nat → Bool) (g : Int → Int → Option Nat) (v : Value) : Wk hp m nn sl (gGet g v) (gGet g v) = True := by
 unfold gGet; split
 ·cases g (k1 v) (k2 v) <;> simp [oI, I, Wk]
 ·simp [Wk]
theorem gGet_sub (hp : List (Nat × Blk)) (g : Int → Int → Option Nat) (v : Value) : Go.Sx.Sub hp (gGet g v) (gGet g v) = True := by
 unfold gGet; split
 ·cases g (k1 v) (k2 v) <;> simp [oI, I, Go.Sx.Sub]
 ·simp [Go.Sx.Sub]
theorem gGet_old (g : Int → Int → Option Nat) (v : Value) : Old (gGet g v) = True := by
 unfold gGet; split
 ·cases g (k1 v) (k2 v) <;> simp [oI, I, Old]
 ·simp [Old]
theorem gGet_fresh (g : Int → Int → Option Nat) (v : Value) : Fresh (gGet g v) = True := by
 unfold gGet; split
 ·cases g (k1 v) (k2 v) <;> simp [oI, I, Fresh]
 ·simp [Fresh]
theorem mi102 : mapInfo Try.prog 102 = some ⟨true, [Lf.i .i64, Lf.i .i64], .int .i64 0⟩ := by kernel_rfl
end Go.He
end
section
set_option linter.unusedSimpArgs false
set_option linter.unusedVariables false
set_option linter.defProp false
set_option maxRecDepth 100000
set_option maxHeartbeats 16000000
namespace Go.He
open Go.Proofs
open Go.Sx
theorem nodup_snoc {l : List Nat} {s : Nat} (h : l.Nodup) (hs : s ∉ l) : (l ++ [s]).Nodup := by
 refine List.nodup_append.2 ⟨h, by simp, fun a ha b hb => ?_⟩
 rw [List.mem_singleton] at hb
 subst hb; rintro rfl; exact hs ha
def goneS (w : Nat → Wd) (m : Nat) (stamp : Value → Nat) (seen : List Nat) (v : Value) : Bool := gDom (sG w m) v && decide (stamp v ∈ seen)
theorem gone_0 (w : Nat → Wd) (m : Nat) (stamp : Value → Nat) : lDom w m (goneS w m stamp []) = gDom (wG w m) := by
 funext v; unfold lDom goneS; simp
theorem gone_S {w : Nat → Wd} {m : Nat} {stamp : Value → Nat} {seen : List Nat} (hinj : ∀ k k', gDom (sG w m) k = true → gDom (sG w m) k' = true → stamp k = stamp k' → k = k') {a b : Int} (hk : gDom (sG w m) (kv a b) = true) : cutDom (lDom w m (goneS w m stamp seen)) (kv a b) = lDom w m (goneS w m stamp (seen ++ [stamp (kv a b)])) := by
 rw [cut_gone (kv a b) a b rfl]
 funext v
 unfold lDom goneS
 congr 2
 rw [Bool.eq_iff_iff]
 simp only [Bool.or_eq_true, Bool.and_eq_true, decide_eq_true_eq, List.mem_append, List.mem_singleton]
 constructor
 ·rintro (h | ⟨h1, h2⟩)
  ·rw [eqK_kv.1 h]; exact ⟨hk, .inr rfl⟩
  ·exact ⟨h1, .inl h2⟩
 ·rintro ⟨h1, h2 | h2⟩
  ·exact .inr ⟨h1, h2⟩
  ·exact .inl (eqK_kv.2 (hinj _ _ h1 hk h2))
theorem gone_all {w : Nat → Wd} {m : Nat} {stamp : Value → Nat} {seen : List Nat} (h : ∀ k, gDom (sG w m) k = true → stamp k ∈ seen) : lDom w m (goneS w m stamp seen) = wDomF w m := by
 funext v
 unfold lDom goneS wDomF
 cases hv : gDom (sG w m) v with
 | false => rfl
 | true => rw [decide_eq_true (h v hv)]; rfl
theorem c88 (n : Int) (m : Nat) (hm : m ≤ 1000000) (w : Nat → Wd) : Contract Try.prog 88 [pref n m w] (.tup [.cmp true kfP (gDom (sG w m)) (gGet (sG w m)), .cmp true kfP (wDomF w m) (gGet (wG w m))]) := by
 refine contract_of Try.func88 rfl (by kernel_rfl) follows (by kernel_rfl) _ _ (by rw [Try.ntmps88]; simp) (by simp [OldL, Old, QV, psv, rsv, pref, wag, wsv, ints, arrs, I, B]) ?_
 unfold pref
 (repeat' (first | with_reducible (first | apply splitVC_d <;> intro _ | apply splitVC <;> intro _) | ((with_reducible refine And.intro ?_ ?_); focus (first | exact True.intro | omega | (simp only [InK, ne_eq, and_true, true_and]; omega) | (and_intros <;> first | exact .inr trivial | exact Nat.le_refl _ | exact one1 _ | exact one5 _ _ _ _ _ | omega) | trivial)) | (simp -dsimp only [↓RP, RQ, Nat.reduceMul, reduceIte, reduceCtorEq, Nat.reduceAdd, Nat.reduceEqDiff, Nat.reduceLT, Nat.reduceLeDiff, mi102, QW, Try.results88])))
 refine loop_vc (fun (i : Nat) => i ≤ m) (fun i => ⟨[(0, .ref false 2 (fun j => rf n m w j)), (4, .mp 2), (5, .mp 3), (16, .arr false false m 3 (fun i j => wf (w i) j)), (17, .val (.int .i64 (m : Nat))), (18, .val (.int .i64 (i : Nat)))], [(2, .map kfP (gDom (sG w i)) (gGet (sG w i))), (3, .map kfP (gDom (wG w i)) (gGet (wG w i)))], 20⟩) (fun i => m - i) 0 (Nat.zero_le _) (weak [] [] ?_ ?_ ?_) fun i hi => ?_
 iterate 3 focus ((simp -dsimp only [↓RP, RQ, Nat.reduceMul, reduceIte, reduceCtorEq, Nat.reduceAdd, Nat.reduceEqDiff, Nat.reduceLT, Nat.reduceLeDiff, QV, gDom_0 (g := sG w 0) (fun _ _ => rfl), gGet_0 (g := sG w 0) (fun _ _ => rfl), gDom_0 (g := wG w 0) (fun _ _ => rfl), gGet_0 (g := wG w 0) (fun _ _ => rfl)]); all_goals (try simp [QV]))
 by_cases hlt : i < m
 ·by_cases hk0 : (w i).k = 0
  ·have f0 := decide_eq_true hk0
   (repeat' (first | with_reducible (first | apply splitVC_d <;> intro _ | apply splitVC <;> intro _) | ((with_reducible refine And.intro ?_ ?_); focus (first | exact True.intro | omega | (simp only [InK, ne_eq, and_true, true_and]; omega) | (and_intros <;> first | exact .inr trivial | exact Nat.le_refl _ | exact one1 _ | exact one5 _ _ _ _ _ | omega) | trivial)) | (simp -dsimp only [↓RP, RQ, Nat.reduceMul, reduceIte, reduceCtorEq, Nat.reduceAdd, Nat.reduceEqDiff, Nat.reduceLT, Nat.reduceLeDiff, f0, gDom_put _ _ _ i, gGet_put, mi102, QW, Try.results88])))
   all_goals try (exfalso; omega)
   refine ⟨i + 1, by omega, by omega, weak [] [] ?_ ?_ ?_⟩
   iterate 2 focus ((simp -dsimp only [↓RP, RQ, Nat.reduceMul, reduceIte, reduceCtorEq, Nat.reduceAdd, Nat.reduceEqDiff, Nat.reduceLT, Nat.reduceLeDiff, QV, sG_S hk0, wG_no hk0]); all_goals (try simp [gGet_wk, gGet_sub, QV, sG_S hk0, wG_no hk0]))
   ·(simp -dsimp only [↓RP, RQ, Nat.reduceMul, reduceIte, reduceCtorEq, Nat.reduceAdd, Nat.reduceEqDiff, Nat.reduceLT, Nat.reduceLeDiff, QV]); all_goals (try simp [gGet_wk, gGet_sub, QV])
  ·have f0 := decide_eq_false hk0
   by_cases hk1 : (w i).k = 1
   ·have f1 := decide_eq_true hk1
    (repeat' (first | with_reducible (first | apply splitVC_d <;> intro _ | apply splitVC <;> intro _) | ((with_reducible refine And.intro ?_ ?_); focus (first | exact True.intro | omega | (simp only [InK, ne_eq, and_true, true_and]; omega) | (and_intros <;> first | exact .inr trivial | exact Nat.le_refl _ | exact one1 _ | exact one5 _ _ _ _ _ | omega) | trivial)) | (simp -dsimp only [↓RP, RQ, Nat.reduceMul, reduceIte, reduceCtorEq, Nat.reduceAdd, Nat.reduceEqDiff, Nat.reduceLT, Nat.reduceLeDiff, f0, f1, gDom_put _ _ _ i, gGet_put, mi102, QW, Try.results88])))
    all_goals try (exfalso; omega)
    refine ⟨i + 1, by omega, by omega, weak [] [] ?_ ?_ ?_⟩
    iterate 2 focus ((simp -dsimp only [↓RP, RQ, Nat.reduceMul, reduceIte, reduceCtorEq, Nat.reduceAdd, Nat.reduceEqDiff, Nat.reduceLT, Nat.reduceLeDiff, QV, sG_no hk0, wG_1 hk1]); all_goals (try simp [gGet_wk, gGet_sub, QV, sG_no hk0, wG_1 hk1]))
    ·(simp -dsimp only [↓RP, RQ, Nat.reduceMul, reduceIte, reduceCtorEq, Nat.reduceAdd, Nat.reduceEqDiff, Nat.reduceLT, Nat.reduceLeDiff, QV]); all_goals (try simp [gGet_wk, gGet_sub, QV])
   ·have f1 := decide_eq_false hk1
    (repeat' (first | with_reducible (first | apply splitVC_d <;> intro _ | apply splitVC <;> intro _) | ((with_reducible refine And.intro ?_ ?_); focus (first | exact True.intro | omega | (simp only [InK, ne_eq, and_true, true_and]; omega) | (and_intros <;> first | exact .inr trivial | exact Nat.le_refl _ | exact one1 _ | exact one5 _ _ _ _ _ | omega) | trivial)) | (simp -dsimp only [↓RP, RQ, Nat.reduceMul, reduceIte, reduceCtorEq, Nat.reduceAdd, Nat.reduceEqDiff, Nat.reduceLT, Nat.reduceLeDiff, f0, f1, gDom_put _ _ _ i, gGet_put, mi102, QW, Try.results88])))
    all_goals try (exfalso; omega)
    refine ⟨i + 1, by omega, by omega, weak [] [] ?_ ?_ ?_⟩
    iterate 2 focus ((simp -dsimp only [↓RP, RQ, Nat.reduceMul, reduceIte, reduceCtorEq, Nat.reduceAdd, Nat.reduceEqDiff, Nat.reduceLT, Nat.reduceLeDiff, QV, sG_no hk0, wG_2 hk0 hk1]); all_goals (try simp [gGet_wk, gGet_sub, QV, sG_no hk0, wG_2 hk0 hk1]))
    ·(simp -dsimp only [↓RP, RQ, Nat.reduceMul, reduceIte, reduceCtorEq, Nat.reduceAdd, Nat.reduceEqDiff, Nat.reduceLT, Nat.reduceLeDiff, QV]); all_goals (try simp [gGet_wk, gGet_sub, QV])
 ·have him : m = i := by omega
  subst him
  (repeat' (first | with_reducible (first | apply splitVC_d <;> intro _ | apply splitVC <;> intro _) | ((with_reducible refine And.intro ?_ ?_); focus (first | exact True.intro | omega | (simp only [InK, ne_eq, and_true, true_and]; omega) | (and_intros <;> first | exact .inr trivial | exact Nat.le_refl _ | exact one1 _ | exact one5 _ _ _ _ _ | omega) | trivial)) | (simp -dsimp only [↓RP, RQ, Nat.reduceMul, reduceIte, reduceCtorEq, Nat.reduceAdd, Nat.reduceEqDiff, Nat.reduceLT, Nat.reduceLeDiff, mi102, QW, Try.results88])))
  all_goals try (exfalso; omega)
  refine mrangeI (mid := 2) (fit := kfP) (dom := gDom (sG w m)) (get := gGet (sG w m)) (by rfl) (by rfl) mi102 (by rfl) fun stamp clk hst hinj => ?_
  (repeat' (first | with_reducible (first | apply splitVC_d <;> intro _ | apply splitVC <;> intro _) | ((with_reducible refine And.intro ?_ ?_); focus (first | exact True.intro | omega | (simp only [InK, ne_eq, and_true, true_and]; omega) | (and_intros <;> first | exact .inr trivial | exact Nat.le_refl _ | exact one1 _ | exact one5 _ _ _ _ _ | omega) | trivial)) | (simp -dsimp only [↓RP, RQ, Nat.reduceMul, reduceIte, reduceCtorEq, Nat.reduceAdd, Nat.reduceEqDiff, Nat.reduceLT, Nat.reduceLeDiff, mi102, QW, Try.results88])))
  refine loop_vc (fun (z : List Nat) => z.Nodup ∧ ∀ s, s ∈ z → s < clk) (fun z => ⟨[(4, .mp 2), (5, .mp 3), (49, .ptr 22 0)], [(22, .iter 2 clk z clk), (2, .mapS kfP (gDom (sG w m)) (gGet (sG w m)) stamp clk), (3, .map kfP (lDom w m (goneS w m stamp z)) (gGet (wG w m)))], 40⟩) (fun z => clk - z.length) [] ⟨List.nodup_nil, fun s hs => by cases hs⟩ (weak [] [] ?_ ?_ ?_) fun seen hz => ?_
  iterate 3 focus ((simp -dsimp only [↓RP, RQ, Nat.reduceMul, reduceIte, reduceCtorEq, Nat.reduceAdd, Nat.reduceEqDiff, Nat.reduceLT, Nat.reduceLeDiff, QV, gone_0]); all_goals (try simp [gone_0, gGet_wk, QV]))
  obtain ⟨y1, y2⟩ := hz
  (repeat' (first | with_reducible (first | apply splitVC_d <;> intro _ | apply splitVC <;> intro _) | ((with_reducible refine And.intro ?_ ?_); focus (first | exact True.intro | omega | (simp only [InK, ne_eq, and_true, true_and]; omega) | (and_intros <;> first | exact .inr trivial | exact Nat.le_refl _ | exact one1 _ | exact one5 _ _ _ _ _ | omega) | trivial)) | (simp -dsimp only [↓RP, RQ, Nat.reduceMul, reduceIte, reduceCtorEq, Nat.reduceAdd, Nat.reduceEqDiff, Nat.reduceLT, Nat.reduceLeDiff, mi102, QW, Try.results88])))
  refine mnextI (iid := 22) (mid := 2) (clk := clk) (seen := seen) (fit := kfP) (dom := gDom (sG w m)) (get := gGet (sG w m)) (stamp := stamp) (by rfl) (by rfl) (by rfl) (by rfl) (fun k hk1 hk2 hk3 => ?_) (fun hall => ?_)
  ·obtain ⟨a, b, rfl⟩ : ∃ a b, k = kv a b := ⟨k1 k, k2 k, kf_spec hk1⟩
   (repeat' (first | with_reducible (first | apply splitVC_d <;> intro _ | apply splitVC <;> intro _) | ((with_reducible refine And.intro ?_ ?_); focus (first | exact True.intro | omega | (simp only [InK, ne_eq, and_true, true_and]; omega) | (and_intros <;> first | exact .inr trivial | exact Nat.le_refl _ | exact one1 _ | exact one5 _ _ _ _ _ | omega) | trivial)) | (simp -dsimp only [↓RP, RQ, Nat.reduceMul, reduceIte, reduceCtorEq, Nat.reduceAdd, Nat.reduceEqDiff, Nat.reduceLT, Nat.reduceLeDiff, mi102, QW, Try.results88])))
   refine mentryI (s := .agg [.val (.int .i64 a), .val (.int .i64 b)]) (iid := 22) (mid := 2) (clk := clk) (seen := seen) (fit := kfP) (dom := gDom (sG w m)) (get := gGet (sG w m)) (stamp := stamp) (k := kv a b) (by rfl) (by rfl) (by rfl) (by rfl) hk2 (isVal_agg [.int .i64 a, .int .i64 b]) ?_
   have hsn := nodup_snoc y1 hk3
   have hst' : ∀ s, s ∈ seen ++ [stamp (kv a b)] → s < clk := fun s hs => by
    rcases List.mem_append.1 hs with h | h
    ·exact y2 s h
    ·rw [List.mem_singleton.1 h]; exact hst _ hk2
   have hlen := nodup_len hsn hst'
   rw [List.length_append, List.length_singleton] at hlen
   have eg := gone_S (seen := seen) hinj hk2
   (repeat' (first | with_reducible (first | apply splitVC_d <;> intro _ | apply splitVC <;> intro _) | ((with_reducible refine And.intro ?_ ?_); focus (first | exact True.intro | omega | (simp only [InK, ne_eq, and_true, true_and]; omega) | (and_intros <;> first | exact .inr trivial | exact Nat.le_refl _ | exact one1 _ | exact one5 _ _ _ _ _ | omega) | trivial)) | (simp -dsimp only [↓RP, RQ0, RQ1, RQ2, RQ3, implies_true, forall_const, Nat.reduceMul, reduceIte, reduceCtorEq, Nat.reduceAdd, Nat.reduceEqDiff, Nat.reduceLT, Nat.reduceLeDiff, eg, show Value.agg #[.int .i64 a, .int .i64 b] = kv a b from rfl, mi102, QV, psv, rsv, pref, B, I, by2, decide_true, decide_false, Bool.not_true, Bool.not_false, eq_self, and_self, Nat.zero_add, Int.toNat_natCast, Int.toNat_one, TY, Try.results88])))
   all_goals try (exfalso; omega)
   refine ⟨seen ++ [stamp (kv a b)], ⟨hsn, hst'⟩, by rw [List.length_append, List.length_singleton]; omega, weak [] [] ?_ ?_ ?_⟩
   iterate 3 focus ((simp -dsimp only [↓RP, RQ, Nat.reduceMul, reduceIte, reduceCtorEq, Nat.reduceAdd, Nat.reduceEqDiff, Nat.reduceLT, Nat.reduceLeDiff, QV]); all_goals (try simp [gGet_wk, gGet_sub, QV]))
  ·have eg := gone_all hall
   (repeat' (first | with_reducible (first | apply splitVC_d <;> intro _ | apply splitVC <;> intro _) | ((with_reducible refine And.intro ?_ ?_); focus (first | exact True.intro | omega | (simp only [InK, ne_eq, and_true, true_and]; omega) | (and_intros <;> first | exact .inr trivial | exact Nat.le_refl _ | exact one1 _ | exact one5 _ _ _ _ _ | omega) | trivial)) | (simp -dsimp only [↓RP, RQ, Nat.reduceMul, reduceIte, reduceCtorEq, Nat.reduceAdd, Nat.reduceEqDiff, Nat.reduceLT, Nat.reduceLeDiff, eg, mi102, QW, Try.results88])))
   all_goals try (exfalso; omega)
   all_goals simp [gGet_sub]
end Go.He
end
