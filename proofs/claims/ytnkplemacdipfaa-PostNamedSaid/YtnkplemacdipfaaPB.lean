/- A part of the proof. -/
import Derived.Test.YtnkplemacdipfaaPA
section
set_option linter.unusedSimpArgs false
set_option linter.unusedVariables false
set_option maxRecDepth 100000
set_option maxHeartbeats 4000000
namespace Go.Po
open Go.Sx
theorem ty84 : tyOf Go.Proofs.Try.prog 84 = some ⟨false, 1, some [.pointer none], .other⟩ := by kernel_rfl
theorem ty88 : tyOf Go.Proofs.Try.prog 88 = some ⟨true, 3, some [.int .i64 0, .int .i64 0, .int .i64 0], .struct [(0, 1, some false), (1, 1, some false), (2, 1, some false)]⟩ := by kernel_rfl
theorem ty105 : tyOf Go.Proofs.Try.prog 105 = some ⟨false, 1, some [.nilFunc], .other⟩ := by kernel_rfl
theorem ty107 : tyOf Go.Proofs.Try.prog 107 = some ⟨false, 1, some [.nilFunc], .other⟩ := by kernel_rfl
theorem ty109 : tyOf Go.Proofs.Try.prog 109 = some ⟨true, 8, some [.int .i64 0, .int .i64 0, .int .i64 0, .int .i64 0, .int .i64 0, .int .i64 0, .int .i64 0, .int .i64 0], .array 8 2 1⟩ := by kernel_rfl
theorem ty110 : tyOf Go.Proofs.Try.prog 110 = some ⟨false, 1, some [.map none], .map 114 2⟩ := by kernel_rfl
theorem ty112 : tyOf Go.Proofs.Try.prog 112 = some ⟨true, 23, some [.slice none 0 0, .int .i64 0, .int .i64 0, .int .i64 0, .int .i64 0, .int .i64 0, .int .i64 0, .int .i64 0, .int .i64 0, .int .i64 0, .int .i64 0, .int .i64 0, .int .i64 0, .int .i64 0, .int .i64 0, .int .i64 0, .int .i64 0, .int .i64 0, .int .i64 0, .int .i64 0, .int .i64 0, .int .i64 0, .map none], .struct [(0, 5, some true), (5, 1, some false), (6, 8, some true), (14, 8, some true), (22, 1, some false)]⟩ := by kernel_rfl
theorem ty114 : tyOf Go.Proofs.Try.prog 114 = some ⟨true, 1, some [.int .i64 0], .struct [(0, 1, some false)]⟩ := by kernel_rfl
theorem mi110 : mapInfo Go.Proofs.Try.prog 110 = some ⟨true, [.i .i64], .int .i64 0⟩ := by kernel_rfl
theorem eq114 : eqInfo Go.Proofs.Try.prog 114 = some [.i .i64] := by kernel_rfl
theorem eq109 : eqInfo Go.Proofs.Try.prog 109 = some [.i .i64, .i .i64, .i .i64, .i .i64, .i .i64, .i .i64, .i .i64, .i .i64] := by kernel_rfl
theorem pl88 : placesOf Go.Proofs.Try.prog 88 = some [(0, 1), (1, 1), (2, 1)] := by kernel_rfl
theorem pl109 : placesOf Go.Proofs.Try.prog 109 = some [(0, 1), (1, 1), (2, 1), (3, 1), (4, 1), (5, 1), (6, 1), (7, 1)] := by kernel_rfl
theorem pl112 : placesOf Go.Proofs.Try.prog 112 = some [(0, 5), (5, 1), (6, 8), (14, 8), (22, 1)] := by kernel_rfl
theorem pl114 : placesOf Go.Proofs.Try.prog 114 = some [(0, 1)] := by kernel_rfl
end Go.Po
namespace Go.Po
open Go.Sx
def bk (n : Int) : Value := .agg #[.int .i64 n]
def k1 (v : Value) : Int := match v with | .agg cs => (match cs.toList with | [.int _ n] => n | _ => -1) | _ => -1
abbrev kf : Value → Bool := keyFit true [.i .i64]
theorem k1_bk (n : Int) : k1 (bk n) = n := rfl
theorem kf_bk (n : Int) : kf (bk n) = true := rfl
theorem kf_mk {v : Value} (h : kf v = true) : ∃ n, v = bk n := by
  unfold kf keyFit at h
  cases v <;> simp at h
  rename_i cs
  obtain ⟨n, hn⟩ := fit_mk_int h
  exact ⟨n, by unfold bk; rw [← hn]⟩
theorem eqK_bk (m n : Int) : eqK (bk m) (bk n) = decide (m = n) := by simp [eqK, bk, seqVs, seqV]
theorem eqK_bk' (m : Int) (v : Value) : eqK (bk m) v = (kf v && decide (m = k1 v)) := by
  cases h : kf v with
  | true =>
    obtain ⟨n, rfl⟩ := kf_mk h
    rw [eqK_bk]; rfl
  | false =>
    cases h2 : eqK (bk m) v with
    | false => rfl
    | true => rw [← eqK_eq h2, kf_bk] at h; cases h
def dF (c : Int) (v : Value) : Bool := kf v && (decide (0 ≤ k1 v) && decide (k1 v < c))
theorem dF_zero : dF 0 = fun _ => false := by
  funext v
  unfold dF
  cases kf v
  · simp
  · simp; try omega
theorem dF_succ (c : Int) (hc : 0 ≤ c) : putDom (dF c) (bk c) = dF (c + 1) := by
  funext v
  unfold putDom dF
  rw [eqK_bk']
  cases kf v <;> simp
  rw [Bool.eq_iff_iff]; simp; omega
def gN (p : Pool) (v : Value) : SV := I (p.net (k1 v))
theorem gN_put (p : Pool) (c : Int) : putGet (gN p) (bk c) (I (p.net c)) = gN p := by
  funext v
  unfold putGet
  rw [eqK_bk']
  cases h : kf v with
  | false => simp [svIte]
  | true =>
    by_cases e : c = k1 v
    · simp [e, svIte, gN]
    · simp [e, svIte]
def bad (L : Int) (v : Value) : Bool := decide (k1 v ≠ 0) && decide (k1 v < L)
def inK (ks : List Value) (v : Value) : Bool := ks.any fun x => eqK x v
theorem inK_iff {ks : List Value} (h : ∀ k ∈ ks, kf k = true) (v : Value) : inK ks v = true ↔ v ∈ ks := by
  unfold inK
  rw [List.any_eq_true]
  constructor
  · rintro ⟨x, hx, he⟩; rw [← eqK_eq he]; exact hx
  · intro hv
    refine ⟨v, hv, ?_⟩
    obtain ⟨n, rfl⟩ := kf_mk (h v hv)
    rw [eqK_bk]; simp
def dR (c L : Int) (ks : List Value) (v : Value) : Bool := dF c v && !(inK ks v && bad L v)
def dD (c L : Int) (v : Value) : Bool := dF c v && !bad L v
theorem dR_nil (c L : Int) : dR c L [] = dF c := by funext v; simp [dR, inK]
theorem inK_snoc (ks : List Value) (k v : Value) : inK (ks ++ [k]) v = (inK ks v || eqK k v) := by simp [inK]
theorem dR_cut (c L : Int) (ks : List Value) (k : Value) (hk : kf k = true) (hb : bad L k = true) : cutDom (dR c L ks) k = dR c L (ks ++ [k]) := by
  funext v
  unfold cutDom dR
  rw [inK_snoc]
  cases h : eqK k v with
  | false => simp
  | true => rw [← eqK_eq h, hb]; simp
theorem dR_keep (c L : Int) (ks : List Value) (k : Value) (hb : bad L k = false) : dR c L (ks ++ [k]) = dR c L ks := by
  funext v
  unfold dR
  rw [inK_snoc]
  cases h : eqK k v with
  | false => simp
  | true => rw [← eqK_eq h, hb]; simp
theorem dF_kf {c : Int} {v : Value} (h : dF c v = true) : kf v = true := by unfold dF at h; simp only [Bool.and_eq_true] at h; exact h.1
theorem dR_dF {c L : Int} {ks : List Value} {v : Value} (h : dR c L ks v = true) : dF c v = true := by unfold dR at h; simp only [Bool.and_eq_true] at h; exact h.1
theorem dR_end {c L : Int} {ks : List Value} {stamp : Value → Nat} (hks : ∀ k ∈ ks, dF c k = true) (hinj : ∀ k k', dF c k = true → dF c k' = true → stamp k = stamp k' → k = k') (hall : ∀ k, dR c L ks k = true → stamp k ∈ ks.map stamp) : dR c L ks = dD c L := by
  funext v
  rw [Bool.eq_iff_iff]
  constructor
  · intro h
    have h1 := dR_dF h
    obtain ⟨k', hk', e⟩ := List.mem_map.1 (hall v h)
    have := hinj k' v (hks k' hk') h1 e
    subst this
    have hin := (inK_iff (fun k hk => dF_kf (hks k hk)) k').2 hk'
    unfold dR at h
    rw [hin] at h
    unfold dD
    simpa using h
  · intro h
    unfold dD at h
    unfold dR
    simp only [Bool.and_eq_true, Bool.not_eq_true'] at h ⊢
    exact ⟨h.1, by rw [h.2]; simp⟩
def rest (c : Nat) (ks : List Value) : Nat := ((List.range c).filter fun (n : Nat) => !inK ks (bk (n : Int))).length
theorem filter_lt {α : Type} (l : List α) (f g : α → Bool) (h : ∀ x ∈ l, f x = true → g x = true) (x : α) (hx : x ∈ l) (hg : g x = true) (hf : f x = false) : (l.filter f).length < (l.filter g).length := by
  have le : ∀ l : List α, (∀ x ∈ l, f x = true → g x = true) → (l.filter f).length ≤ (l.filter g).length := by
    intro l
    induction l with
    | nil => intro _; simp
    | cons a l ih =>
      intro h
      have h1 := ih fun x hx => h x (by simp [hx])
      have h2 := h a (by simp)
      simp only [List.filter_cons]
      cases hfa : f a <;> cases hga : g a
      · simpa using h1
      · simp; omega
      · rw [h2 hfa] at hga; cases hga
      · simp; omega
  induction l with
  | nil => cases hx
  | cons a l ih =>
    have h2 := h a (by simp)
    simp only [List.filter_cons]
    rcases List.mem_cons.1 hx with rfl | hx'
    · rw [hf, hg]
      have := le l fun x hx => h x (by simp [hx])
      simp; omega
    · have h1 := ih (fun x hx => h x (by simp [hx])) hx'
      cases hfa : f a <;> cases hga : g a
      · simpa using h1
      · simp; omega
      · rw [h2 hfa] at hga; cases hga
      · simp; omega
theorem rest_lt {c : Nat} {ks : List Value} {k : Value} (hk : dF c k = true) (hks : ∀ k ∈ ks, dF c k = true) (hn : k ∉ ks) : rest c (ks ++ [k]) < rest c ks := by
  obtain ⟨n, rfl⟩ := kf_mk (dF_kf hk)
  have hb : 0 ≤ n ∧ n < c := by
    unfold dF at hk
    simp only [k1_bk, Bool.and_eq_true] at hk; exact ⟨of_decide_eq_true hk.2.1, of_decide_eq_true hk.2.2⟩
  refine filter_lt _ _ _ (fun x _ h => ?_) n.toNat (by simp; omega) ?_ ?_
  · rw [inK_snoc] at h
    simp at h ⊢
    exact h.1
  · have : inK ks (bk n) ≠ true := fun h => hn ((inK_iff (fun k hk => dF_kf (hks k hk)) _).1 h)
    have e : ((n.toNat : Nat) : Int) = n := by omega
    rw [e]
    simpa using this
  · rw [inK_snoc]
    have e : ((n.toNat : Nat) : Int) = n := by omega
    rw [e, eqK_bk]; simp
end Go.Po
end
section
set_option linter.unusedSimpArgs false
set_option linter.unusedVariables false
set_option maxRecDepth 100000
set_option maxHeartbeats 8000000
namespace Go.Po
open Go.Sx
def dk (p : Pool) (r : Int) (a b : Nat → Int) (nets : SV) : List SV := [rngs p.n p.lo p.hi, I p.per, I p.pence, I p.keep, I p.step, I r,
  I (a 0), I (a 1), I (a 2), I (a 3), I (a 4), I (a 5), I (a 6), I (a 7), I (b 0), I (b 1), I (b 2), I (b 3), I (b 4), I (b 5), I (b 6), I (b 7), nets]
def upto (u : Nat → Int) (i j : Nat) : Int := if j < i then u j else 0
def Pool.L (p : Pool) : Int := sumTo (upto p.lo p.n) 8
def Pool.H (p : Pool) : Int := sumTo (upto p.hi p.n) 8
def Pool.netsV (p : Pool) : SV := .cmp true kf (dD (p.H + 1) p.L) (gN p)
abbrev arrS (p : Pool) : SV := .arr false false p.n 2 (fun i j => .val (.int .i64 (if j = 0 then p.lo i else p.hi i)))
abbrev poolB (p : Pool) : Blk := .cells 24 [.arr false false p.n 2 (fun i j => .val (.int .i64 (if j = 0 then p.lo i else p.hi i))), .val (.int .i64 p.per), .val (.int .i64 p.pence), .val (.int .i64 p.keep), .val (.int .i64 p.step)]
abbrev dkB (p : Pool) (r : Int) (a b : Nat → Int) (nets : SV) : Blk := .cells 112 [.arr false false p.n 2 (fun i j => .val (.int .i64 (if j = 0 then p.lo i else p.hi i))), .val (.int .i64 p.per), .val (.int .i64 p.pence), .val (.int .i64 p.keep), .val (.int .i64 p.step), .val (.int .i64 r),
  .val (.int .i64 (a 0)), .val (.int .i64 (a 1)), .val (.int .i64 (a 2)), .val (.int .i64 (a 3)), .val (.int .i64 (a 4)), .val (.int .i64 (a 5)), .val (.int .i64 (a 6)), .val (.int .i64 (a 7)), .val (.int .i64 (b 0)), .val (.int .i64 (b 1)), .val (.int .i64 (b 2)), .val (.int .i64 (b 3)), .val (.int .i64 (b 4)), .val (.int .i64 (b 5)), .val (.int .i64 (b 6)), .val (.int .i64 (b 7)), nets]
theorem upto_ok (u : Nat → Int) (n : Nat) (hu : ∀ i, i < n → 0 ≤ u i ∧ u i ≤ 10000) (i : Nat) : 0 ≤ upto u n i ∧ upto u n i ≤ 10000 := by
  unfold upto
  split
  · rename_i h; exact hu i h
  · omega
theorem upto_ok2 (u : Nat → Int) (n : Nat) (hu : ∀ i, i < n → 0 ≤ u i ∧ u i ≤ 200) (i : Nat) : 0 ≤ upto u n i ∧ upto u n i ≤ 200 := by
  unfold upto
  split
  · rename_i h; exact hu i h
  · omega
theorem c74 (p : Pool) (h : p.Fine) (r : Int) : ContractN Go.Proofs.Try.prog 74 [p.sv, I r] (.cells 112 (dk p r (upto p.lo p.n) (upto p.hi p.n) p.netsV)) (.ptr 0 0) := by
  refine contractN_ofF (farAt 6 [(33, 37)]) Go.Proofs.Try.func74 rfl (by kernel_rfl) follows (by kernel_rfl) _ _ _ (by rw [Go.Proofs.Try.ntmps74]; simp) (by simp [OldL, p.old]; simp [Old, I]) ?_
  have h8 := h.n8
  conv => arg 4; unfold Pool.sv rngs I
  (repeat' (first | with_reducible refine splitVC_d (fun _ => ?_) (fun _ => ?_) | ((with_reducible refine And.intro ?_ ?_); focus (first | trivial | (simp only [InK]; omega) | omega | (simp only [InK, ne_eq, and_true, true_and]; omega))) | simp -dsimp only [↓RP, RQ0, RQ1, RQ2, RQ3, implies_true, forall_const, Nat.reduceMul, reduceIte, reduceCtorEq, Nat.reduceAdd, Nat.reduceEqDiff, Nat.reduceLT, Nat.reduceLeDiff, ty2, ty3, ty4, ty22, ty24, ty25, ty28, ty35, pl35, ty84, ty109, ty110, ty112, ty114, mi110, pl112, Go.Proofs.Try.results74]))
  refine loop_vc (fun i => i ≤ p.n) (fun i => ⟨[(1, .val (.int .i64 r)), (2, .ptr 0 0), (4, .val (.pointer none)), (5, .ptr 6 0), (20, arrS p), (21, .val (.int .i64 p.n)), (22, .val (.int .i64 i))],
    [(6, dkB p r (upto p.lo i) (upto p.hi i) (.mp 4)), (4, .map kf (dF 0) (gN p)), (0, poolB p)], 17⟩) (fun i => p.n - i) 0 (Nat.zero_le _) (weak [] [] ?_ ?_ ?_) fun i hi => ?_
  · (simp -dsimp only [↓RP, RQ0, RQ1, RQ2, RQ3, implies_true, forall_const, Nat.reduceMul, reduceIte, reduceCtorEq, Nat.reduceAdd, Nat.reduceEqDiff, Nat.reduceLT, Nat.reduceLeDiff, upto]); all_goals simp
  · (simp -dsimp only [↓RP, RQ0, RQ1, RQ2, RQ3, implies_true, forall_const, Nat.reduceMul, reduceIte, reduceCtorEq, Nat.reduceAdd, Nat.reduceEqDiff, Nat.reduceLT, Nat.reduceLeDiff, upto]); simp [dF_zero]; (simp -dsimp only [↓RP, RQ0, RQ1, RQ2, RQ3, implies_true, forall_const, Nat.reduceMul, reduceIte, reduceCtorEq, Nat.reduceAdd, Nat.reduceEqDiff, Nat.reduceLT, Nat.reduceLeDiff])
  · (simp -dsimp only [↓RP, RQ0, RQ1, RQ2, RQ3, implies_true, forall_const, Nat.reduceMul, reduceIte, reduceCtorEq, Nat.reduceAdd, Nat.reduceEqDiff, Nat.reduceLT, Nat.reduceLeDiff]); all_goals simp
  by_cases hlt : i < p.n
  · have hi8 : i = 0 ∨ i = 1 ∨ i = 2 ∨ i = 3 ∨ i = 4 ∨ i = 5 ∨ i = 6 ∨ i = 7 := by omega
    rcases hi8 with rfl | rfl | rfl | rfl | rfl | rfl | rfl | rfl
    all_goals
      (repeat' (first | with_reducible refine splitVC_d (fun _ => ?_) (fun _ => ?_) | ((with_reducible refine And.intro ?_ ?_); focus (first | trivial | (simp only [InK]; omega) | omega | (simp only [InK, ne_eq, and_true, true_and]; omega))) | simp -dsimp only [↓RP, RQ0, RQ1, RQ2, RQ3, implies_true, forall_const, Nat.reduceMul, reduceIte, reduceCtorEq, Nat.reduceAdd, Nat.reduceEqDiff, Nat.reduceLT, Nat.reduceLeDiff, ty2, ty3, ty4, ty22, ty24, ty25, ty28, ty35, pl35, ty84, ty109, ty110, ty112, ty114, mi110, pl112, Go.Proofs.Try.results74]))
      all_goals first
        | (exfalso; omega)
        | skip
      first
        | refine ⟨1, by omega, by omega, weak [] [] ?_ ?_ ?_⟩
        | refine ⟨2, by omega, by omega, weak [] [] ?_ ?_ ?_⟩
        | refine ⟨3, by omega, by omega, weak [] [] ?_ ?_ ?_⟩
        | refine ⟨4, by omega, by omega, weak [] [] ?_ ?_ ?_⟩
        | refine ⟨5, by omega, by omega, weak [] [] ?_ ?_ ?_⟩
        | refine ⟨6, by omega, by omega, weak [] [] ?_ ?_ ?_⟩
        | refine ⟨7, by omega, by omega, weak [] [] ?_ ?_ ?_⟩
        | refine ⟨8, by omega, by omega, weak [] [] ?_ ?_ ?_⟩
      · (simp -dsimp only [↓RP, RQ0, RQ1, RQ2, RQ3, implies_true, forall_const, Nat.reduceMul, reduceIte, reduceCtorEq, Nat.reduceAdd, Nat.reduceEqDiff, Nat.reduceLT, Nat.reduceLeDiff, upto]); simp
      · (simp -dsimp only [↓RP, RQ0, RQ1, RQ2, RQ3, implies_true, forall_const, Nat.reduceMul, reduceIte, reduceCtorEq, Nat.reduceAdd, Nat.reduceEqDiff, Nat.reduceLT, Nat.reduceLeDiff, upto, gN, I]); simp
      · (simp -dsimp only [↓RP, RQ0, RQ1, RQ2, RQ3, implies_true, forall_const, Nat.reduceMul, reduceIte, reduceCtorEq, Nat.reduceAdd, Nat.reduceEqDiff, Nat.reduceLT, Nat.reduceLeDiff]); simp
  · have e : i = p.n := by omega
    subst e
    have hH := upto_ok p.hi p.n (fun i hi => by have := h.rg i hi; omega)
    have hL := upto_ok p.lo p.n (fun i hi => by have := h.rg i hi; omega)
    have hH2 := upto_ok2 p.hi p.n (fun i hi => by have := h.rg i hi; omega)
    (repeat' (first | with_reducible refine splitVC_d (fun _ => ?_) (fun _ => ?_) | ((with_reducible refine And.intro ?_ ?_); focus (first | trivial | (simp only [InK]; omega) | omega | (simp only [InK, ne_eq, and_true, true_and]; omega))) | simp -dsimp only [↓RP, RQ0, RQ1, RQ2, RQ3, implies_true, forall_const, Nat.reduceMul, reduceIte, reduceCtorEq, Nat.reduceAdd, Nat.reduceEqDiff, Nat.reduceLT, Nat.reduceLeDiff, ty2, ty3, ty4, ty22, ty24, ty25, ty28, ty35, pl35, ty84, ty109, ty110, ty112, ty114, mi110, pl112, Go.Proofs.Try.results74]))
    · exfalso; omega
    refine callVC (c56 (upto p.hi p.n) 8 (by omega) (fun i _ => hH i)) ?_ (by (simp -dsimp only [↓RP, RQ0, RQ1, RQ2, RQ3, implies_true, forall_const, Nat.reduceMul, reduceIte, reduceCtorEq, Nat.reduceAdd, Nat.reduceEqDiff, Nat.reduceLT, Nat.reduceLeDiff, I])) ?_
    · (simp -dsimp only [↓RP, RQ0, RQ1, RQ2, RQ3, implies_true, forall_const, Nat.reduceMul, reduceIte, reduceCtorEq, Nat.reduceAdd, Nat.reduceEqDiff, Nat.reduceLT, Nat.reduceLeDiff, ints])
      intro i j hi8 hj
      have : i = 0 ∨ i = 1 ∨ i = 2 ∨ i = 3 ∨ i = 4 ∨ i = 5 ∨ i = 6 ∨ i = 7 := by omega
      have hj0 : j = 0 := by omega
      subst hj0
      rcases this with rfl | rfl | rfl | rfl | rfl | rfl | rfl | rfl <;> rfl
    have hHb := sumTo_bound (upto p.hi p.n) 200 8 (fun i _ => hH2 i) 8 (Nat.le_refl _)
    (repeat' (first | with_reducible refine splitVC_d (fun _ => ?_) (fun _ => ?_) | ((with_reducible refine And.intro ?_ ?_); focus (first | trivial | (simp only [InK]; omega) | omega | (simp only [InK, ne_eq, and_true, true_and]; omega))) | simp -dsimp only [↓RP, RQ0, RQ1, RQ2, RQ3, implies_true, forall_const, Nat.reduceMul, reduceIte, reduceCtorEq, Nat.reduceAdd, Nat.reduceEqDiff, Nat.reduceLT, Nat.reduceLeDiff, I, ty2, ty3, ty4, ty22, ty24, ty25, ty28, ty35, pl35, ty84, ty109, ty110, ty112, ty114, mi110, pl112, pl114, eq114, Go.Proofs.Try.results74]))
    refine loop_vc (fun (c : Nat) => (c : Int) ≤ p.H + 1) (fun (c : Nat) => ⟨[(2, .ptr 0 0), (4, .val (.pointer none)), (5, .ptr 6 0), (47, .val (.int .i64 (p.H + 1))), (48, .val (.int .i64 c))],
      [(6, dkB p r (upto p.lo p.n) (upto p.hi p.n) (.mp 4)), (4, .map kf (dF c) (gN p)), (0, poolB p)], 25⟩) (fun (c : Nat) => (p.H + 1).toNat - c) 0 (by unfold Pool.H; omega) (weak [] [] ?_ ?_ ?_) fun c hc => ?_
    · (simp -dsimp only [↓RP, RQ0, RQ1, RQ2, RQ3, implies_true, forall_const, Nat.reduceMul, reduceIte, reduceCtorEq, Nat.reduceAdd, Nat.reduceEqDiff, Nat.reduceLT, Nat.reduceLeDiff, Pool.H]); all_goals simp
    · (simp -dsimp only [↓RP, RQ0, RQ1, RQ2, RQ3, implies_true, forall_const, Nat.reduceMul, reduceIte, reduceCtorEq, Nat.reduceAdd, Nat.reduceEqDiff, Nat.reduceLT, Nat.reduceLeDiff, gN, I]); all_goals simp
    · (simp -dsimp only [↓RP, RQ0, RQ1, RQ2, RQ3, implies_true, forall_const, Nat.reduceMul, reduceIte, reduceCtorEq, Nat.reduceAdd, Nat.reduceEqDiff, Nat.reduceLT, Nat.reduceLeDiff]); all_goals simp
    have hc0 : 0 ≤ p.H := by unfold Pool.H; omega
    have hc1 : p.H ≤ 1600 := by unfold Pool.H; omega
    by_cases hlt : (c : Int) < p.H + 1
    · (repeat' (first | with_reducible refine splitVC_d (fun _ => ?_) (fun _ => ?_) | ((with_reducible refine And.intro ?_ ?_); focus (first | trivial | (simp only [InK]; omega) | omega | (simp only [InK, ne_eq, and_true, true_and]; omega))) | simp -dsimp only [↓RP, RQ0, RQ1, RQ2, RQ3, implies_true, forall_const, Nat.reduceMul, reduceIte, reduceCtorEq, Nat.reduceAdd, Nat.reduceEqDiff, Nat.reduceLT, Nat.reduceLeDiff, I, ty2, ty3, ty4, ty22, ty24, ty25, ty28, ty35, pl35, ty84, ty109, ty110, ty112, ty114, mi110, pl112, pl114, eq114, Go.Proofs.Try.results74]))
      · refine callVC (c55 p h c (by omega) (by omega)) (by (simp -dsimp only [↓RP, RQ0, RQ1, RQ2, RQ3, implies_true, forall_const, Nat.reduceMul, reduceIte, reduceCtorEq, Nat.reduceAdd, Nat.reduceEqDiff, Nat.reduceLT, Nat.reduceLeDiff, Pool.sv, rngs, I]); simp) (by (simp -dsimp only [↓RP, RQ0, RQ1, RQ2, RQ3, implies_true, forall_const, Nat.reduceMul, reduceIte, reduceCtorEq, Nat.reduceAdd, Nat.reduceEqDiff, Nat.reduceLT, Nat.reduceLeDiff, I])) ?_
        (repeat' (first | with_reducible refine splitVC_d (fun _ => ?_) (fun _ => ?_) | ((with_reducible refine And.intro ?_ ?_); focus (first | trivial | (simp only [InK]; omega) | omega | (simp only [InK, ne_eq, and_true, true_and]; omega))) | simp -dsimp only [↓RP, RQ0, RQ1, RQ2, RQ3, implies_true, forall_const, Nat.reduceMul, reduceIte, reduceCtorEq, Nat.reduceAdd, Nat.reduceEqDiff, Nat.reduceLT, Nat.reduceLeDiff, I, ty2, ty3, ty4, ty22, ty24, ty25, ty28, ty35, pl35, ty84, ty109, ty110, ty112, ty114, mi110, pl112, pl114, eq114, Go.Proofs.Try.results74]))
        refine ⟨c + 1, by omega, by omega, weak [] [] ?_ ?_ ?_⟩
        · (simp -dsimp only [↓RP, RQ0, RQ1, RQ2, RQ3, implies_true, forall_const, Nat.reduceMul, reduceIte, reduceCtorEq, Nat.reduceAdd, Nat.reduceEqDiff, Nat.reduceLT, Nat.reduceLeDiff]); all_goals simp
        · have e1 := dF_succ c (by omega)
          have e2 := gN_put p c
          rw [show ((c : Int) + 1) = ((c + 1 : Nat) : Int) by omega] at e1
          unfold bk at e1 e2
          unfold I at e2
          (simp -dsimp only [↓RP, RQ0, RQ1, RQ2, RQ3, implies_true, forall_const, Nat.reduceMul, reduceIte, reduceCtorEq, Nat.reduceAdd, Nat.reduceEqDiff, Nat.reduceLT, Nat.reduceLeDiff, e1, e2, gN, I]); all_goals simp
        · (simp -dsimp only [↓RP, RQ0, RQ1, RQ2, RQ3, implies_true, forall_const, Nat.reduceMul, reduceIte, reduceCtorEq, Nat.reduceAdd, Nat.reduceEqDiff, Nat.reduceLT, Nat.reduceLeDiff]); all_goals simp
      · exfalso; omega
    · (repeat' (first | with_reducible refine splitVC_d (fun _ => ?_) (fun _ => ?_) | ((with_reducible refine And.intro ?_ ?_); focus (first | trivial | (simp only [InK]; omega) | omega | (simp only [InK, ne_eq, and_true, true_and]; omega))) | simp -dsimp only [↓RP, RQ0, RQ1, RQ2, RQ3, implies_true, forall_const, Nat.reduceMul, reduceIte, reduceCtorEq, Nat.reduceAdd, Nat.reduceEqDiff, Nat.reduceLT, Nat.reduceLeDiff, I, ty2, ty3, ty4, ty22, ty24, ty25, ty28, ty35, pl35, ty84, ty109, ty110, ty112, ty114, mi110, pl112, pl114, eq114, Go.Proofs.Try.results74]))
      · exfalso; omega
      have hce : (c : Int) = p.H + 1 := by omega
      refine mrangeI (by rfl) (by rfl) mi110 (by rfl) fun stamp clk hst hinj => ?_
      (repeat' (first | with_reducible refine splitVC_d (fun _ => ?_) (fun _ => ?_) | ((with_reducible refine And.intro ?_ ?_); focus (first | trivial | (simp only [InK]; omega) | omega | (simp only [InK, ne_eq, and_true, true_and]; omega))) | simp -dsimp only [↓RP, RQ0, RQ1, RQ2, RQ3, implies_true, forall_const, Nat.reduceMul, reduceIte, reduceCtorEq, Nat.reduceAdd, Nat.reduceEqDiff, Nat.reduceLT, Nat.reduceLeDiff, I, ty2, ty3, ty4, ty22, ty24, ty25, ty28, ty35, pl35, ty84, ty109, ty110, ty112, ty114, mi110, pl112, pl114, eq114, Go.Proofs.Try.results74]))
      refine loop_vc (fun (ks : List Value) => ∀ k ∈ ks, dF c k = true) (fun (ks : List Value) => ⟨[(2, .ptr 0 0), (4, .val (.pointer none)), (5, .ptr 6 0), (65, .ptr 30 0)],
        [(30, .iter 4 clk (ks.map stamp) clk), (6, dkB p r (upto p.lo p.n) (upto p.hi p.n) (.mp 4)), (4, .mapS kf (dR c p.L ks) (gN p) stamp clk), (0, poolB p)], 31⟩) (fun (ks : List Value) => rest c ks) [] (by simp) (weak [] [] ?_ ?_ ?_) fun ks hks => ?_
      · (simp -dsimp only [↓RP, RQ0, RQ1, RQ2, RQ3, implies_true, forall_const, Nat.reduceMul, reduceIte, reduceCtorEq, Nat.reduceAdd, Nat.reduceEqDiff, Nat.reduceLT, Nat.reduceLeDiff]); all_goals simp
      · (simp -dsimp only [↓RP, RQ0, RQ1, RQ2, RQ3, implies_true, forall_const, Nat.reduceMul, reduceIte, reduceCtorEq, Nat.reduceAdd, Nat.reduceEqDiff, Nat.reduceLT, Nat.reduceLeDiff, gN, I, dR_nil]); all_goals simp
      · (simp -dsimp only [↓RP, RQ0, RQ1, RQ2, RQ3, implies_true, forall_const, Nat.reduceMul, reduceIte, reduceCtorEq, Nat.reduceAdd, Nat.reduceEqDiff, Nat.reduceLT, Nat.reduceLeDiff]); all_goals simp
      have hks' : ∀ k : Value, dR (c : Int) p.L ks k = true → ∀ x ∈ ks ++ [k], dF c x = true := fun k hk x hx => by
        rcases List.mem_append.1 hx with hx | hx
        · exact hks x hx
        · rw [List.mem_singleton.1 hx]; exact dR_dF hk
      have hnot : ∀ k : Value, stamp k ∉ List.map stamp ks → k ∉ ks := fun k h1 h2 => h1 (List.mem_map.2 ⟨k, h2, rfl⟩)
      (repeat' (first | with_reducible refine splitVC_d (fun _ => ?_) (fun _ => ?_) | ((with_reducible refine And.intro ?_ ?_); focus (first | trivial | (simp only [InK]; omega) | omega | (simp only [InK, ne_eq, and_true, true_and]; omega))) | simp -dsimp only [↓RP, RQ0, RQ1, RQ2, RQ3, implies_true, forall_const, Nat.reduceMul, reduceIte, reduceCtorEq, Nat.reduceAdd, Nat.reduceEqDiff, Nat.reduceLT, Nat.reduceLeDiff, I, ty2, ty3, ty4, ty22, ty24, ty25, ty28, ty35, pl35, ty84, ty109, ty110, ty112, ty114, mi110, pl112, pl114, eq114, Go.Proofs.Try.results74]))
      refine mnextI (by rfl) (by rfl) (by rfl) (by rfl) (fun k hk1 hk2 hk3 => ?_) fun hend => ?_
      · obtain ⟨n, rfl⟩ := kf_mk hk1
        (repeat' (first | with_reducible refine splitVC_d (fun _ => ?_) (fun _ => ?_) | ((with_reducible refine And.intro ?_ ?_); focus (first | trivial | (simp only [InK]; omega) | omega | (simp only [InK, ne_eq, and_true, true_and]; omega))) | simp -dsimp only [↓RP, RQ0, RQ1, RQ2, RQ3, implies_true, forall_const, Nat.reduceMul, reduceIte, reduceCtorEq, Nat.reduceAdd, Nat.reduceEqDiff, Nat.reduceLT, Nat.reduceLeDiff, I, ty2, ty3, ty4, ty22, ty24, ty25, ty28, ty35, pl35, ty84, ty109, ty110, ty112, ty114, mi110, pl112, pl114, eq114, Go.Proofs.Try.results74]))
        refine mentryI (s := .agg [.val (.int .i64 n)]) (k := bk n) (by rfl) (by rfl) (by rfl) (by rfl) hk2 (isVal_agg [.int .i64 n]) ?_
        (repeat' (first | with_reducible refine splitVC_d (fun _ => ?_) (fun _ => ?_) | ((with_reducible refine And.intro ?_ ?_); focus (first | trivial | (simp only [InK]; omega) | omega | (simp only [InK, ne_eq, and_true, true_and]; omega))) | simp -dsimp only [↓RP, RQ0, RQ1, RQ2, RQ3, implies_true, forall_const, Nat.reduceMul, reduceIte, reduceCtorEq, Nat.reduceAdd, Nat.reduceEqDiff, Nat.reduceLT, Nat.reduceLeDiff, I, ty2, ty3, ty4, ty22, ty24, ty25, ty28, ty35, pl35, ty84, ty109, ty110, ty112, ty114, mi110, pl112, pl114, eq114, Go.Proofs.Try.results74]))
        · have hb : bad p.L (bk n) = false := by rename_i hn; simp [bad, k1_bk, hn]
          refine ⟨ks ++ [bk n], hks' _ hk2, rest_lt (dR_dF hk2) hks (hnot _ hk3), weak [] [] ?_ ?_ ?_⟩
          · (simp -dsimp only [↓RP, RQ0, RQ1, RQ2, RQ3, implies_true, forall_const, Nat.reduceMul, reduceIte, reduceCtorEq, Nat.reduceAdd, Nat.reduceEqDiff, Nat.reduceLT, Nat.reduceLeDiff]); all_goals simp
          · (simp -dsimp only [↓RP, RQ0, RQ1, RQ2, RQ3, implies_true, forall_const, Nat.reduceMul, reduceIte, reduceCtorEq, Nat.reduceAdd, Nat.reduceEqDiff, Nat.reduceLT, Nat.reduceLeDiff, dR_keep (c : Int) p.L ks (bk n) hb, gN, I]); all_goals simp
          · (simp -dsimp only [↓RP, RQ0, RQ1, RQ2, RQ3, implies_true, forall_const, Nat.reduceMul, reduceIte, reduceCtorEq, Nat.reduceAdd, Nat.reduceEqDiff, Nat.reduceLT, Nat.reduceLeDiff]); all_goals simp
        refine callVC (c56 (upto p.lo p.n) 8 (by omega) (fun i _ => hL i)) ?_ (by (simp -dsimp only [↓RP, RQ0, RQ1, RQ2, RQ3, implies_true, forall_const, Nat.reduceMul, reduceIte, reduceCtorEq, Nat.reduceAdd, Nat.reduceEqDiff, Nat.reduceLT, Nat.reduceLeDiff, I])) ?_
        · (simp -dsimp only [↓RP, RQ0, RQ1, RQ2, RQ3, implies_true, forall_const, Nat.reduceMul, reduceIte, reduceCtorEq, Nat.reduceAdd, Nat.reduceEqDiff, Nat.reduceLT, Nat.reduceLeDiff, ints])
          intro i j hi8 hj
          have : i = 0 ∨ i = 1 ∨ i = 2 ∨ i = 3 ∨ i = 4 ∨ i = 5 ∨ i = 6 ∨ i = 7 := by omega
          have hj0 : j = 0 := by omega
          subst hj0
          rcases this with rfl | rfl | rfl | rfl | rfl | rfl | rfl | rfl <;> rfl
        (repeat' (first | with_reducible refine splitVC_d (fun _ => ?_) (fun _ => ?_) | ((with_reducible refine And.intro ?_ ?_); focus (first | trivial | (simp only [InK]; omega) | omega | (simp only [InK, ne_eq, and_true, true_and]; omega))) | simp -dsimp only [↓RP, RQ0, RQ1, RQ2, RQ3, implies_true, forall_const, Nat.reduceMul, reduceIte, reduceCtorEq, Nat.reduceAdd, Nat.reduceEqDiff, Nat.reduceLT, Nat.reduceLeDiff, I, ty2, ty3, ty4, ty22, ty24, ty25, ty28, ty35, pl35, ty84, ty109, ty110, ty112, ty114, mi110, pl112, pl114, eq114, Go.Proofs.Try.results74]))
        · have hb : bad p.L (bk n) = true := by
            rename_i hn hl
            unfold bad Pool.L
            rw [k1_bk]
            simp [hn, hl]
          have e1 := dR_cut (c : Int) p.L ks (bk n) hk1 hb
          unfold bk at e1
          refine ⟨ks ++ [bk n], hks' _ hk2, rest_lt (dR_dF hk2) hks (hnot _ hk3), weak [] [] ?_ ?_ ?_⟩
          · (simp -dsimp only [↓RP, RQ0, RQ1, RQ2, RQ3, implies_true, forall_const, Nat.reduceMul, reduceIte, reduceCtorEq, Nat.reduceAdd, Nat.reduceEqDiff, Nat.reduceLT, Nat.reduceLeDiff]); all_goals simp
          · (simp -dsimp only [↓RP, RQ0, RQ1, RQ2, RQ3, implies_true, forall_const, Nat.reduceMul, reduceIte, reduceCtorEq, Nat.reduceAdd, Nat.reduceEqDiff, Nat.reduceLT, Nat.reduceLeDiff, e1, gN, I, bk]); all_goals simp
          · (simp -dsimp only [↓RP, RQ0, RQ1, RQ2, RQ3, implies_true, forall_const, Nat.reduceMul, reduceIte, reduceCtorEq, Nat.reduceAdd, Nat.reduceEqDiff, Nat.reduceLT, Nat.reduceLeDiff]); all_goals simp
        · have hb : bad p.L (bk n) = false := by
            rename_i hn hl
            unfold bad Pool.L
            rw [k1_bk]
            simp [hl]
          refine ⟨ks ++ [bk n], hks' _ hk2, rest_lt (dR_dF hk2) hks (hnot _ hk3), weak [] [] ?_ ?_ ?_⟩
          · (simp -dsimp only [↓RP, RQ0, RQ1, RQ2, RQ3, implies_true, forall_const, Nat.reduceMul, reduceIte, reduceCtorEq, Nat.reduceAdd, Nat.reduceEqDiff, Nat.reduceLT, Nat.reduceLeDiff]); all_goals simp
          · (simp -dsimp only [↓RP, RQ0, RQ1, RQ2, RQ3, implies_true, forall_const, Nat.reduceMul, reduceIte, reduceCtorEq, Nat.reduceAdd, Nat.reduceEqDiff, Nat.reduceLT, Nat.reduceLeDiff, dR_keep (c : Int) p.L ks (bk n) hb, gN, I]); all_goals simp
          · (simp -dsimp only [↓RP, RQ0, RQ1, RQ2, RQ3, implies_true, forall_const, Nat.reduceMul, reduceIte, reduceCtorEq, Nat.reduceAdd, Nat.reduceEqDiff, Nat.reduceLT, Nat.reduceLeDiff]); all_goals simp
      · have hd : dR (c : Int) p.L ks = dD (p.H + 1) p.L := by rw [← hce]; exact dR_end hks hinj hend
        (repeat' (first | with_reducible refine splitVC_d (fun _ => ?_) (fun _ => ?_) | ((with_reducible refine And.intro ?_ ?_); focus (first | trivial | (simp only [InK]; omega) | omega | (simp only [InK, ne_eq, and_true, true_and]; omega))) | simp -dsimp only [↓RP, RQ0, RQ1, RQ2, RQ3, implies_true, forall_const, Nat.reduceMul, reduceIte, reduceCtorEq, Nat.reduceAdd, Nat.reduceEqDiff, Nat.reduceLT, Nat.reduceLeDiff, I, ty2, ty3, ty4, ty22, ty24, ty25, ty28, ty35, pl35, ty84, ty109, ty110, ty112, ty114, mi110, pl112, pl114, eq114, Go.Proofs.Try.results74]))
        refine ⟨6, _, rfl, ?_, ?_⟩
        · rw [hd]
          (simp -dsimp only [↓RP, RQ0, RQ1, RQ2, RQ3, implies_true, forall_const, Nat.reduceMul, reduceIte, reduceCtorEq, Nat.reduceAdd, Nat.reduceEqDiff, Nat.reduceLT, Nat.reduceLeDiff, dk, Pool.netsV, rngs, I])
          refine ⟨fun h => h.elim, fun key _ => ?_⟩
          unfold gN I
          (simp -dsimp only [↓RP, RQ0, RQ1, RQ2, RQ3, implies_true, forall_const, Nat.reduceMul, reduceIte, reduceCtorEq, Nat.reduceAdd, Nat.reduceEqDiff, Nat.reduceLT, Nat.reduceLeDiff])
          all_goals trace_state
        · (simp -dsimp only [↓RP, RQ0, RQ1, RQ2, RQ3, implies_true, forall_const, Nat.reduceMul, reduceIte, reduceCtorEq, Nat.reduceAdd, Nat.reduceEqDiff, Nat.reduceLT, Nat.reduceLeDiff])
end Go.Po
end
section
set_option linter.unusedSimpArgs false
set_option linter.unusedVariables false
set_option maxRecDepth 100000
set_option maxHeartbeats 8000000
namespace Go.Po
open Go.Sx
mutual
theorem sub_refl {hp : List (Nat × Blk)} : ∀ (s : SV), Old s → Go.Sx.Sub hp s s
  | .top, _ => by simp [Go.Sx.Sub]
  | .val v, _ => by simp [Go.Sx.Sub]
  | .agg l, h => by simp only [Old] at h; simp only [Go.Sx.Sub]; exact subL_refl l h
  | .tup l, h => by simp only [Old] at h; simp only [Go.Sx.Sub]; exact subL_refl l h
  | .fn f a b, h => by simp only [Old] at h; simp only [Go.Sx.Sub]; exact ⟨trivial, subL_refl a h.1, subL_refl b h.2⟩
  | .ref o n row, h => by simp only [Old] at h; simp only [Go.Sx.Sub]; exact ⟨id, Nat.le_refl _, fun j hj => sub_refl (row j) (h.2 j hj)⟩
  | .arr o full n k row, h => by simp only [Old] at h; simp only [Go.Sx.Sub]; exact ⟨id, id, trivial, trivial, fun i j hi hj => sub_refl (row i j) (h.2 i j hi hj)⟩
  | .cmp o fit dom get, h => by simp only [Old] at h; simp only [Go.Sx.Sub]; exact ⟨id, trivial, trivial, fun key hk => sub_refl (get key) (h.2 key hk)⟩
  | .cut _ _ _, h => by simp [Old] at h
  | .ptr _ _, h => by simp [Old] at h
  | .elt _ _ _ _, h => by simp [Old] at h
  | .vec _ _ _, h => by simp [Old] at h
  | .mp _, h => by simp [Old] at h
  | .asl _ _ _ _, h => by simp [Old] at h
  | .yld _, h => by simp [Old] at h
theorem subL_refl {hp : List (Nat × Blk)} : ∀ (l : List SV), OldL l → SubL hp l l
  | [], _ => by simp [SubL]
  | a :: l, h => by simp only [OldL] at h; simp only [SubL]; exact ⟨sub_refl a h.1, subL_refl l h.2⟩
end
def Pool.netsO (p : Pool) : SV := .cmp false kf (dD (p.H + 1) p.L) (gN p)
def dkR (p : Pool) (r : Nat) (j : Nat) : SV := (dk p r (upto p.lo p.n) (upto p.hi p.n) p.netsO).getD j .top
def D (p : Pool) (r : Nat) : SV := .ref false 23 (dkR p r)
theorem dkR_0 (p : Pool) (r : Nat) : dkR p r 0 = rngs p.n p.lo p.hi := rfl
theorem dkR_4 (p : Pool) (r : Nat) : dkR p r 4 = I p.step := rfl
theorem dkR_5 (p : Pool) (r : Nat) : dkR p r 5 = I r := rfl
theorem dkR_22 (p : Pool) (r : Nat) : dkR p r 22 = p.netsO := rfl
theorem dkR_lo (p : Pool) (r i : Nat) (h : i < 8) : dkR p r (6 + i) = I (upto p.lo p.n i) := by
  have : i = 0 ∨ i = 1 ∨ i = 2 ∨ i = 3 ∨ i = 4 ∨ i = 5 ∨ i = 6 ∨ i = 7 := by omega
  rcases this with rfl | rfl | rfl | rfl | rfl | rfl | rfl | rfl <;> rfl
theorem dkR_hi (p : Pool) (r i : Nat) (h : i < 8) : dkR p r (14 + i) = I (upto p.hi p.n i) := by
  have : i = 0 ∨ i = 1 ∨ i = 2 ∨ i = 3 ∨ i = 4 ∨ i = 5 ∨ i = 6 ∨ i = 7 := by omega
  rcases this with rfl | rfl | rfl | rfl | rfl | rfl | rfl | rfl <;> rfl
theorem D_old (p : Pool) (r : Nat) : Old (D p r) := by
  simp only [D, Old, true_and]
  intro j hj
  have : j = 0 ∨ j = 1 ∨ j = 2 ∨ j = 3 ∨ j = 4 ∨ j = 5 ∨ j = 22 ∨ (∃ i, i < 8 ∧ j = 6 + i) ∨ (∃ i, i < 8 ∧ j = 14 + i) := by
    rcases Nat.lt_or_ge j 6 with h | h
    · omega
    · rcases Nat.lt_or_ge j 14 with h' | h'
      · exact .inr (.inr (.inr (.inr (.inr (.inr (.inr (.inl ⟨j - 6, by omega, by omega⟩)))))))
      · rcases Nat.lt_or_ge j 22 with h2 | h2
        · exact .inr (.inr (.inr (.inr (.inr (.inr (.inr (.inr ⟨j - 14, by omega, by omega⟩)))))))
        · omega
  rcases this with rfl | rfl | rfl | rfl | rfl | rfl | rfl | ⟨i, hi, rfl⟩ | ⟨i, hi, rfl⟩
  · simp [dkR_0, rngs, Old]
  · simp [dkR, dk, I, Old]
  · simp [dkR, dk, I, Old]
  · simp [dkR, dk, I, Old]
  · simp [dkR, dk, I, Old]
  · simp [dkR, dk, I, Old]
  · simp [dkR_22, Pool.netsO, Old, gN, I]
  · rw [dkR_lo _ _ _ hi]; simp [I, Old]
  · rw [dkR_hi _ _ _ hi]; simp [I, Old]
theorem D_sub (hp : List (Nat × Blk)) (p : Pool) (r j : Nat) (h : j < 23) : Go.Sx.Sub hp (dkR p r j) (dkR p r j) := by
  have := D_old p r
  simp only [D, Old, true_and] at this
  exact sub_refl _ (this j h)
theorem D_sub' (hp : List (Nat × Blk)) (p : Pool) (r : Nat) : Go.Sx.Sub hp (D p r) (D p r) := sub_refl _ (D_old p r)
theorem k1e (a : Int) : k1 (.agg #[.int .i64 a]) = a := rfl
def tot (a b c : Int) : SV := .agg [I a, I b, I c]
def Pool.lf (p : Pool) (a on d : Int) : Int := p.net a - d * on
theorem dD_in (p : Pool) (a : Int) (h0 : 0 ≤ p.L) (h1 : p.L ≤ a) (h2 : a ≤ p.H) : dD (p.H + 1) p.L (.agg #[.int .i64 a]) = true := by
  show dD (p.H + 1) p.L (bk a) = true
  unfold dD dF bad
  rw [kf_bk, k1_bk]
  simp
  omega
theorem LH (p : Pool) (h : p.Fine) : 0 ≤ p.L ∧ p.L ≤ p.H ∧ p.H ≤ 1600 := by
  have h1 := sumTo_bound (upto p.lo p.n) 200 8 (fun i _ => upto_ok2 p.lo p.n (fun i hi => by have := h.rg i hi; omega) i) 8 (Nat.le_refl _)
  have h2 := sumTo_bound (upto p.hi p.n) 200 8 (fun i _ => upto_ok2 p.hi p.n (fun i hi => by have := h.rg i hi; omega) i) 8 (Nat.le_refl _)
  have h3 : ∀ m, sumTo (upto p.lo p.n) m ≤ sumTo (upto p.hi p.n) m := by
    intro m
    induction m with
    | zero => simp [sumTo]
    | succ m ih =>
      have : upto p.lo p.n m ≤ upto p.hi p.n m := by
        unfold upto
        split
        · rename_i hm; have := h.rg m hm; omega
        · omega
      simp only [sumTo]; omega
  have := h3 8
  unfold Pool.L Pool.H
  omega
theorem c67 (p : Pool) (h : p.Fine) (r : Nat) (a b c on d : Int) (h1 : p.L ≤ a) (h2 : a ≤ p.H) (h3 : 0 ≤ d) (h4 : d ≤ 100000) (h5 : -10000 ≤ on) (h6 : on ≤ 10000) : Contract Go.Proofs.Try.prog 67 [D p r, tot a b c, I on, I d] (I (p.lf a on d)) := by
  refine contract_of Go.Proofs.Try.func67 rfl (by kernel_rfl) follows (by kernel_rfl) _ _ (by rw [Go.Proofs.Try.ntmps67]; simp) (by simp only [OldL, D_old]; simp [Old, OldL, tot, I]) ?_
  obtain ⟨g1, g2, g3⟩ := LH p h
  have g4 := dD_in p a g1 h1 h2
  have g5 := p.net_bound h (units := a) (by omega) (by omega)
  have g6 : d * on ≤ 1000000000 := by
    have : d * on ≤ d * 10000 := Int.mul_le_mul_of_nonneg_left h6 h3
    omega
  have g7 : -1000000000 ≤ d * on := by
    have : d * (-10000) ≤ d * on := Int.mul_le_mul_of_nonneg_left h5 h3
    omega
  conv => arg 4; unfold D tot I
  (repeat' (first | with_reducible refine splitVC_d (fun _ => ?_) (fun _ => ?_) | ((with_reducible refine And.intro ?_ ?_); focus (first | trivial | (simp only [InK]; omega) | omega | (simp only [InK, ne_eq, and_true, true_and]; omega))) | simp -dsimp only [↓RP, RQ0, RQ1, RQ2, RQ3, implies_true, forall_const, Nat.reduceMul, reduceIte, reduceCtorEq, Nat.reduceAdd, Nat.reduceEqDiff, Nat.reduceLT, Nat.reduceLeDiff, ty2, ty3, ty4, ty22, ty24, ty25, ty28, ty35, ty84, ty88, ty109, ty110, ty112, ty114, mi110, pl112, pl114, eq114, dkR_22, Pool.netsO, g4, gN, k1e, I, Go.Proofs.Try.results67]))
  rfl
theorem c82 (p : Pool) (h : p.Fine) (r : Nat) (a b c d : Int) (h1 : p.L ≤ a) (h2 : a ≤ p.H) (h3 : 0 ≤ d) (h4 : d ≤ 100000) (h5 : -10000 ≤ b) (h6 : b ≤ 10000) : Contract Go.Proofs.Try.prog 82 [tot a b c, .ref false 1 (fun _ => D p r), .ref false 1 (fun _ => I d)] (I (p.lf a b d)) := by
  refine contract_of Go.Proofs.Try.func82 rfl (by kernel_rfl) follows (by kernel_rfl) _ _ (by rw [Go.Proofs.Try.ntmps82]; simp) (by simp only [OldL, Old, D_old]; simp [Old, OldL, tot, I, D_old]) ?_
  conv => arg 4; unfold tot I
  (repeat' (first | with_reducible refine splitVC_d (fun _ => ?_) (fun _ => ?_) | ((with_reducible refine And.intro ?_ ?_); focus (first | trivial | (simp only [InK]; omega) | omega | (simp only [InK, ne_eq, and_true, true_and]; omega))) | simp -dsimp only [↓RP, RQ0, RQ1, RQ2, RQ3, implies_true, forall_const, Nat.reduceMul, reduceIte, reduceCtorEq, Nat.reduceAdd, Nat.reduceEqDiff, Nat.reduceLT, Nat.reduceLeDiff, ty2, ty3, ty4, ty84, ty88, ty112, Go.Proofs.Try.results82]))
  refine callVC (c67 p h r a b c b d h1 h2 h3 h4 h5 h6) (by (simp -dsimp only [↓RP, RQ0, RQ1, RQ2, RQ3, implies_true, forall_const, Nat.reduceMul, reduceIte, reduceCtorEq, Nat.reduceAdd, Nat.reduceEqDiff, Nat.reduceLT, Nat.reduceLeDiff, D, tot, I]); exact ⟨fun e => e, fun j hj => D_sub _ p r j hj⟩) (by (simp -dsimp only [↓RP, RQ0, RQ1, RQ2, RQ3, implies_true, forall_const, Nat.reduceMul, reduceIte, reduceCtorEq, Nat.reduceAdd, Nat.reduceEqDiff, Nat.reduceLT, Nat.reduceLeDiff, I])) ?_
  (repeat' (first | with_reducible refine splitVC_d (fun _ => ?_) (fun _ => ?_) | ((with_reducible refine And.intro ?_ ?_); focus (first | trivial | (simp only [InK]; omega) | omega | (simp only [InK, ne_eq, and_true, true_and]; omega))) | simp -dsimp only [↓RP, RQ0, RQ1, RQ2, RQ3, implies_true, forall_const, Nat.reduceMul, reduceIte, reduceCtorEq, Nat.reduceAdd, Nat.reduceEqDiff, Nat.reduceLT, Nat.reduceLeDiff, ty2, ty3, ty4, ty84, ty88, ty112, I, Go.Proofs.Try.results82]))
theorem c83 (p : Pool) (h : p.Fine) (r : Nat) (a b c d : Int) (h1 : p.L ≤ a) (h2 : a ≤ p.H) (h3 : 0 ≤ d) (h4 : d ≤ 100000) (h5 : -10000 ≤ c) (h6 : c ≤ 10000) : Contract Go.Proofs.Try.prog 83 [tot a b c, .ref false 1 (fun _ => D p r), .ref false 1 (fun _ => I d)] (I (-p.lf a c d)) := by
  refine contract_of Go.Proofs.Try.func83 rfl (by kernel_rfl) follows (by kernel_rfl) _ _ (by rw [Go.Proofs.Try.ntmps83]; simp) (by simp only [OldL, Old, D_old]; simp [Old, OldL, tot, I, D_old]) ?_
  conv => arg 4; unfold tot I
  (repeat' (first | with_reducible refine splitVC_d (fun _ => ?_) (fun _ => ?_) | ((with_reducible refine And.intro ?_ ?_); focus (first | trivial | (simp only [InK]; omega) | omega | (simp only [InK, ne_eq, and_true, true_and]; omega))) | simp -dsimp only [↓RP, RQ0, RQ1, RQ2, RQ3, implies_true, forall_const, Nat.reduceMul, reduceIte, reduceCtorEq, Nat.reduceAdd, Nat.reduceEqDiff, Nat.reduceLT, Nat.reduceLeDiff, ty2, ty3, ty4, ty84, ty88, ty112, Go.Proofs.Try.results83]))
  refine callVC (c67 p h r a b c c d h1 h2 h3 h4 h5 h6) (by (simp -dsimp only [↓RP, RQ0, RQ1, RQ2, RQ3, implies_true, forall_const, Nat.reduceMul, reduceIte, reduceCtorEq, Nat.reduceAdd, Nat.reduceEqDiff, Nat.reduceLT, Nat.reduceLeDiff, D, tot, I]); exact ⟨fun e => e, fun j hj => D_sub _ p r j hj⟩) (by (simp -dsimp only [↓RP, RQ0, RQ1, RQ2, RQ3, implies_true, forall_const, Nat.reduceMul, reduceIte, reduceCtorEq, Nat.reduceAdd, Nat.reduceEqDiff, Nat.reduceLT, Nat.reduceLeDiff, I])) ?_
  have g5 := p.net_bound h (units := a) (by have := LH p h; omega) (by have := LH p h; omega)
  have g6 : d * c ≤ 1000000000 := by
    have : d * c ≤ d * 10000 := Int.mul_le_mul_of_nonneg_left h6 h3
    omega
  have g7 : -1000000000 ≤ d * c := by
    have : d * (-10000) ≤ d * c := Int.mul_le_mul_of_nonneg_left h5 h3
    omega
  have g8 : -2000000000 ≤ p.lf a c d ∧ p.lf a c d ≤ 2000000000 := by unfold Pool.lf; omega
  (repeat' (first | with_reducible refine splitVC_d (fun _ => ?_) (fun _ => ?_) | ((with_reducible refine And.intro ?_ ?_); focus (first | trivial | (simp only [InK]; omega) | omega | (simp only [InK, ne_eq, and_true, true_and]; omega))) | simp -dsimp only [↓RP, RQ0, RQ1, RQ2, RQ3, implies_true, forall_const, Nat.reduceMul, reduceIte, reduceCtorEq, Nat.reduceAdd, Nat.reduceEqDiff, Nat.reduceLT, Nat.reduceLeDiff, ty2, ty3, ty4, ty84, ty88, ty112, I, Go.Proofs.Try.results83]))
  refine I_eq ?_
  omega
theorem c81 (p : Pool) (r : Nat) : Contract Go.Proofs.Try.prog 81 [D p r] (.fn (.func 87) [] [.ref true 1 (fun _ => D p r)]) := by
  refine contract_of Go.Proofs.Try.func81 rfl (by kernel_rfl) follows (by kernel_rfl) _ _ (by rw [Go.Proofs.Try.ntmps81]; simp) (by simp only [OldL, D_old]; simp) ?_
  (repeat' (first | with_reducible refine splitVC_d (fun _ => ?_) (fun _ => ?_) | ((with_reducible refine And.intro ?_ ?_); focus (first | trivial | (simp only [InK]; omega) | omega | (simp only [InK, ne_eq, and_true, true_and]; omega))) | simp -dsimp only [↓RP, RQ0, RQ1, RQ2, RQ3, implies_true, forall_const, Nat.reduceMul, reduceIte, reduceCtorEq, Nat.reduceAdd, Nat.reduceEqDiff, Nat.reduceLT, Nat.reduceLeDiff, ty2, ty3, ty4, ty84, ty88, ty105, ty112, I, Go.Proofs.Try.results81]))
  intro j hj
  have : j = 0 := by omega
  subst this
  exact ⟨D_sub' _ p r, hj⟩
end Go.Po
end
section
set_option linter.unusedSimpArgs false
set_option linter.unusedVariables false
set_option maxRecDepth 100000
set_option maxHeartbeats 8000000
namespace Go.Po
open Go.Sx
def Pool.tAll (p : Pool) (k : Nat) : Int := p.L + k
def Pool.tMost (p : Pool) (r k : Nat) : Int := min (p.hi r) (p.tAll k - (p.L - p.lo r))
def Pool.tFew (p : Pool) (r k : Nat) : Int := max (p.lo r) (p.tAll k - (p.H - p.hi r))
def Pool.tN (p : Pool) : Nat := (p.H - p.L).toNat + 1
def Pool.tot (p : Pool) (r k : Nat) : SV := Go.Po.tot (p.tAll k) (p.tMost r k) (p.tFew r k)
def am (w : Nat → Int) : Nat → Nat
  | 0 => 0
  | m + 1 => if w (m + 1) < w (am w m) then m + 1 else am w m
theorem dkR_14 (p : Pool) (r : Nat) : dkR p r 14 = .val (.int .i64 (upto p.hi p.n 0)) := rfl
theorem dkR_15 (p : Pool) (r : Nat) : dkR p r 15 = .val (.int .i64 (upto p.hi p.n 1)) := rfl
theorem dkR_16 (p : Pool) (r : Nat) : dkR p r 16 = .val (.int .i64 (upto p.hi p.n 2)) := rfl
theorem dkR_17 (p : Pool) (r : Nat) : dkR p r 17 = .val (.int .i64 (upto p.hi p.n 3)) := rfl
theorem dkR_18 (p : Pool) (r : Nat) : dkR p r 18 = .val (.int .i64 (upto p.hi p.n 4)) := rfl
theorem dkR_19 (p : Pool) (r : Nat) : dkR p r 19 = .val (.int .i64 (upto p.hi p.n 5)) := rfl
theorem dkR_20 (p : Pool) (r : Nat) : dkR p r 20 = .val (.int .i64 (upto p.hi p.n 6)) := rfl
theorem dkR_21 (p : Pool) (r : Nat) : dkR p r 21 = .val (.int .i64 (upto p.hi p.n 7)) := rfl
theorem lo_sub (p : Pool) (r i j : Nat) (hi : i < 8) (hj : j < 1) : dkR p r (6 + (i + j)) = .val (.int .i64 (upto p.lo p.n i)) := by
  have : j = 0 := by omega
  subst this
  rw [Nat.add_zero, dkR_lo p r i hi]; rfl
theorem hi_sub (p : Pool) (r i j : Nat) (hi : i < 8) (hj : j < 1) : dkR p r (14 + (i + j)) = .val (.int .i64 (upto p.hi p.n i)) := by
  have : j = 0 := by omega
  subst this
  rw [Nat.add_zero, dkR_hi p r i hi]; rfl
abbrev resB (l : List SV) : Blk := .cells 88 l
def fnd : Nat → Bool
  | 0 => false
  | _ + 1 => true
def at0 (f : Nat → Int) : Nat → Int
  | 0 => 0
  | m + 1 => f m
mutual
theorem wk_refl {hp : List (Nat × Blk)} {mm : Nat → Option Nat} {nn : Nat} {sl : Nat → Bool} : ∀ (s : SV), Old s → Wk hp mm nn sl s s
  | .top, _ => by simp [Wk]
  | .val v, _ => by simp [Wk]
  | .agg l, h => by simp only [Old] at h; simp only [Wk]; exact wkL_refl l h
  | .tup l, h => by simp only [Old] at h; simp only [Wk]; exact wkL_refl l h
  | .fn f a b, h => by simp only [Old] at h; simp only [Wk]; exact ⟨trivial, wkL_refl a h.1, wkL_refl b h.2⟩
  | .ref o n row, h => by simp only [Old] at h; simp only [Wk]; exact ⟨id, Nat.le_refl _, fun j hj => wk_refl (row j) (h.2 j hj)⟩
  | .arr o full n k row, h => by simp only [Old] at h; simp only [Wk]; exact ⟨id, id, trivial, trivial, fun i j hi hj => wk_refl (row i j) (h.2 i j hi hj)⟩
  | .cmp o fit dom get, h => by simp only [Old] at h; simp only [Wk]; exact ⟨id, trivial, trivial, fun key hk => wk_refl (get key) (h.2 key hk)⟩
  | .cut _ _ _, h => by simp [Old] at h
  | .ptr _ _, h => by simp [Old] at h
  | .elt _ _ _ _, h => by simp [Old] at h
  | .vec _ _ _, h => by simp [Old] at h
  | .mp _, h => by simp [Old] at h
  | .asl _ _ _ _, h => by simp [Old] at h
  | .yld _, h => by simp [Old] at h
theorem wkL_refl {hp : List (Nat × Blk)} {mm : Nat → Option Nat} {nn : Nat} {sl : Nat → Bool} : ∀ (l : List SV), OldL l → WkL hp mm nn sl l l
  | [], _ => by simp [WkL]
  | a :: l, h => by simp only [OldL] at h; simp only [WkL]; exact ⟨wk_refl a h.1, wkL_refl l h.2⟩
end
theorem c80 (p : Pool) (h : p.Fine) (r : Nat) (hr : r < p.n) (fw : FuncId) (caps : List SV) (w : Nat → Int) (hold : OldL caps) (hw : ∀ k, k < p.tN → Contract Go.Proofs.Try.prog fw (p.tot r k :: caps) (I (w k))) :
    Contract Go.Proofs.Try.prog 80 [.fn (.func 87) [] [.ref false 1 (fun _ => D p r)], .fn (.func fw) [] caps] (p.tot r (am w (p.tN - 1))) := by
  refine contract_of Go.Proofs.Try.func80 rfl (by kernel_rfl) follows (by kernel_rfl) _ _ (by rw [Go.Proofs.Try.ntmps80]; simp) (by simp only [OldL, Old, D_old, hold]; simp) ?_
  (repeat' (first | with_reducible refine splitVC_d (fun _ => ?_) (fun _ => ?_) | ((with_reducible refine And.intro ?_ ?_); focus (first | trivial | (simp only [InK]; omega) | omega | (simp only [InK, ne_eq, and_true, true_and]; omega))) | simp -dsimp only [↓RP, RQ0, RQ1, RQ2, RQ3, implies_true, forall_const, Nat.reduceMul, reduceIte, reduceCtorEq, Nat.reduceAdd, Nat.reduceEqDiff, Nat.reduceLT, Nat.reduceLeDiff, ty2, ty3, ty4, ty84, ty88, ty105, ty107, ty112, I, Go.Proofs.Try.results80]))
  refine rangeI (ps := [11]) follows (by rfl) Go.Proofs.Try.func87 rfl (by kernel_rfl) (by kernel_rfl) (by rw [Go.Proofs.Try.results87]) (by rw [Go.Proofs.Try.ntmps87]; simp) fun out L R => ?_
  have h8 := h.n8
  have hlo := dkR_lo p r r (by omega)
  have hhi := dkR_hi p r r (by omega)
  have elo : upto p.lo p.n r = p.lo r := by simp [upto, hr]
  have ehi : upto p.hi p.n r = p.hi r := by simp [upto, hr]
  rw [elo] at hlo
  rw [ehi] at hhi
  unfold I at hlo hhi
  have hL := upto_ok p.lo p.n (fun i hi => by have := h.rg i hi; omega)
  have hH := upto_ok p.hi p.n (fun i hi => by have := h.rg i hi; omega)
  have hz : (decide (upto p.hi p.n 0 = 0) && (decide (upto p.hi p.n 1 = 0) && (decide (upto p.hi p.n 2 = 0) && (decide (upto p.hi p.n 3 = 0) && (decide (upto p.hi p.n 4 = 0) && (decide (upto p.hi p.n 5 = 0) && (decide (upto p.hi p.n 6 = 0) && decide (upto p.hi p.n 7 = 0)))))))) = decide (p.H = 0) := by
    have k0 := hH 0; have k1 := hH 1; have k2 := hH 2; have k3 := hH 3; have k4 := hH 4; have k5 := hH 5; have k6 := hH 6; have k7 := hH 7
    rw [Bool.eq_iff_iff]
    simp [Pool.H, sumTo]
    omega
  (repeat' (first | with_reducible refine splitVC_d (fun _ => ?_) (fun _ => ?_) | ((with_reducible refine And.intro ?_ ?_); focus (first | trivial | (simp only [InK]; omega) | omega | (simp only [InK, ne_eq, and_true, true_and]; omega))) | simp -dsimp only [↓RP, RQ0, RQ1, RQ2, RQ3, implies_true, forall_const, Nat.reduceMul, reduceIte, reduceCtorEq, Nat.reduceAdd, Nat.reduceEqDiff, Nat.reduceLT, Nat.reduceLeDiff, ty2, ty3, ty4, ty25, ty84, ty88, ty105, ty107, ty109, ty112, eq109, pl88, pl109, I, D, dkR_5, hlo, hhi, hz, Int.toNat_natCast, Nat.mul_one, Nat.add_zero, dkR_14, dkR_15, dkR_16, dkR_17, dkR_18, dkR_19, dkR_20, dkR_21, Go.Proofs.Try.results80, Go.Proofs.Try.results87]))
  refine callVC (c56 (upto p.lo p.n) 8 (by omega) (fun i _ => hL i)) (by (simp -dsimp only [↓RP, RQ0, RQ1, RQ2, RQ3, implies_true, forall_const, Nat.reduceMul, reduceIte, reduceCtorEq, Nat.reduceAdd, Nat.reduceEqDiff, Nat.reduceLT, Nat.reduceLeDiff, ints]); exact ⟨fun e => e, fun i j hi hj => lo_sub p r i j hi hj⟩) (by (simp -dsimp only [↓RP, RQ0, RQ1, RQ2, RQ3, implies_true, forall_const, Nat.reduceMul, reduceIte, reduceCtorEq, Nat.reduceAdd, Nat.reduceEqDiff, Nat.reduceLT, Nat.reduceLeDiff, I])) ?_
  (repeat' (first | with_reducible refine splitVC_d (fun _ => ?_) (fun _ => ?_) | ((with_reducible refine And.intro ?_ ?_); focus (first | trivial | (simp only [InK]; omega) | omega | (simp only [InK, ne_eq, and_true, true_and]; omega))) | simp -dsimp only [↓RP, RQ0, RQ1, RQ2, RQ3, implies_true, forall_const, Nat.reduceMul, reduceIte, reduceCtorEq, Nat.reduceAdd, Nat.reduceEqDiff, Nat.reduceLT, Nat.reduceLeDiff, ty2, ty3, ty4, ty25, ty84, ty88, ty105, ty107, ty109, ty112, eq109, pl88, pl109, I, D, dkR_5, hlo, hhi, hz, Int.toNat_natCast, Nat.mul_one, Nat.add_zero, dkR_14, dkR_15, dkR_16, dkR_17, dkR_18, dkR_19, dkR_20, dkR_21, Go.Proofs.Try.results80, Go.Proofs.Try.results87]))
  refine callVC (c56 (upto p.hi p.n) 8 (by omega) (fun i _ => hH i)) (by (simp -dsimp only [↓RP, RQ0, RQ1, RQ2, RQ3, implies_true, forall_const, Nat.reduceMul, reduceIte, reduceCtorEq, Nat.reduceAdd, Nat.reduceEqDiff, Nat.reduceLT, Nat.reduceLeDiff, ints]); exact ⟨fun e => e, fun i j hi hj => hi_sub p r i j hi hj⟩) (by (simp -dsimp only [↓RP, RQ0, RQ1, RQ2, RQ3, implies_true, forall_const, Nat.reduceMul, reduceIte, reduceCtorEq, Nat.reduceAdd, Nat.reduceEqDiff, Nat.reduceLT, Nat.reduceLeDiff, I])) ?_
  (repeat' (first | with_reducible refine splitVC_d (fun _ => ?_) (fun _ => ?_) | ((with_reducible refine And.intro ?_ ?_); focus (first | trivial | (simp only [InK]; omega) | omega | (simp only [InK, ne_eq, and_true, true_and]; omega))) | simp -dsimp only [↓RP, RQ0, RQ1, RQ2, RQ3, implies_true, forall_const, Nat.reduceMul, reduceIte, reduceCtorEq, Nat.reduceAdd, Nat.reduceEqDiff, Nat.reduceLT, Nat.reduceLeDiff, ty2, ty3, ty4, ty25, ty84, ty88, ty105, ty107, ty109, ty112, eq109, pl88, pl109, I, D, dkR_5, hlo, hhi, hz, Int.toNat_natCast, Nat.mul_one, Nat.add_zero, dkR_14, dkR_15, dkR_16, dkR_17, dkR_18, dkR_19, dkR_20, dkR_21, Go.Proofs.Try.results80, Go.Proofs.Try.results87]))
  · rename_i hH0
    obtain ⟨g1, g2, g3⟩ := LH p h
    have hLz : p.L = 0 := by omega
    have hz' := hz
    rw [hH0] at hz'
    have hup : upto p.hi p.n r = 0 := by
      have hr8 : r < 8 := by omega
      simp only [decide_true, Bool.and_eq_true, decide_eq_true_eq] at hz'
      have : r = 0 ∨ r = 1 ∨ r = 2 ∨ r = 3 ∨ r = 4 ∨ r = 5 ∨ r = 6 ∨ r = 7 := by omega
      rcases this with rfl | rfl | rfl | rfl | rfl | rfl | rfl | rfl <;> simp [hz']
    have hhr : p.hi r = 0 := by rw [← ehi]; exact hup
    have hlr : p.lo r = 0 := by have := h.rg r hr; omega
    have e0 : p.tot r 0 = .agg [.val (.int .i64 0), .val (.int .i64 0), .val (.int .i64 0)] := by simp [Pool.tot, Go.Po.tot, I, Pool.tAll, Pool.tMost, Pool.tFew, hLz, hH0, hhr, hlr]
    have eN : p.tN - 1 = 0 := by unfold Pool.tN; omega
    refine yieldI follows (by rfl) R (by rfl) (by rfl) fun out2 => ?_
    (repeat' (first | with_reducible refine splitVC_d (fun _ => ?_) (fun _ => ?_) | ((with_reducible refine And.intro ?_ ?_); focus (first | trivial | (simp only [InK]; omega) | omega | (simp only [InK, ne_eq, and_true, true_and]; omega))) | simp -dsimp only [↓RP, RQ0, RQ1, RQ2, RQ3, implies_true, forall_const, Nat.reduceMul, reduceIte, reduceCtorEq, Nat.reduceAdd, Nat.reduceEqDiff, Nat.reduceLT, Nat.reduceLeDiff, ty2, ty3, ty4, ty25, ty84, ty88, ty105, ty107, ty109, ty112, eq109, pl88, pl109, I, D, dkR_5, hlo, hhi, hz, Int.toNat_natCast, Nat.mul_one, Nat.add_zero, dkR_14, dkR_15, dkR_16, dkR_17, dkR_18, dkR_19, dkR_20, dkR_21, Go.Proofs.Try.results80, Go.Proofs.Try.results87]))
    refine callVC (hw 0 (by unfold Pool.tN; omega)) (by rw [e0]; (simp -dsimp only [↓RP, RQ0, RQ1, RQ2, RQ3, implies_true, forall_const, Nat.reduceMul, reduceIte, reduceCtorEq, Nat.reduceAdd, Nat.reduceEqDiff, Nat.reduceLT, Nat.reduceLeDiff]); exact subL_refl caps hold) (by (simp -dsimp only [↓RP, RQ0, RQ1, RQ2, RQ3, implies_true, forall_const, Nat.reduceMul, reduceIte, reduceCtorEq, Nat.reduceAdd, Nat.reduceEqDiff, Nat.reduceLT, Nat.reduceLeDiff, I])) ?_
    (repeat' (first | with_reducible refine splitVC_d (fun _ => ?_) (fun _ => ?_) | ((with_reducible refine And.intro ?_ ?_); focus (first | trivial | (simp only [InK]; omega) | omega | (simp only [InK, ne_eq, and_true, true_and]; omega))) | simp -dsimp only [↓RP, RQ0, RQ1, RQ2, RQ3, implies_true, forall_const, Nat.reduceMul, reduceIte, reduceCtorEq, Nat.reduceAdd, Nat.reduceEqDiff, Nat.reduceLT, Nat.reduceLeDiff, ty2, ty3, ty4, ty25, ty84, ty88, ty105, ty107, ty109, ty112, eq109, pl88, pl109, I, D, dkR_5, hlo, hhi, hz, Int.toNat_natCast, Nat.mul_one, Nat.add_zero, dkR_14, dkR_15, dkR_16, dkR_17, dkR_18, dkR_19, dkR_20, dkR_21, Go.Proofs.Try.results80, Go.Proofs.Try.results87]))
    rw [eN]
    simp only [am]
    rw [e0]
    (simp -dsimp only [↓RP, RQ0, RQ1, RQ2, RQ3, implies_true, forall_const, Nat.reduceMul, reduceIte, reduceCtorEq, Nat.reduceAdd, Nat.reduceEqDiff, Nat.reduceLT, Nat.reduceLeDiff])
    all_goals trace_state
  · have hHL := LH p h
    have hrr := h.rg r hr
    refine loop_vc (fun (k : Nat) => k ≤ p.tN) (fun (k : Nat) => ⟨[(0, .yld 8), (3, .val (.int .i64 (p.lo r))), (4, .val (.int .i64 (p.hi r))), (5, .val (.int .i64 p.L)), (6, .val (.int .i64 p.H)), (7, .val (.int .i64 (p.L + k)))],
      [(8, .loop L .ready), (4, .cells 2 [.val (.int .i64 (at0 (fun m => w (am w m)) k))]), (3, .cells 4 [.val (.bool (fnd k))]),
        (2, .cells 88 [.val (.int .i64 (at0 (fun m => p.tAll (am w m)) k)), .val (.int .i64 (at0 (fun m => p.tMost r (am w m)) k)), .val (.int .i64 (at0 (fun m => p.tFew r (am w m)) k))]),
        (1, .cells 88 [.val (.int .i64 0), .val (.int .i64 0), .val (.int .i64 0)]), (0, .cells 107 [.fn (.func fw) [] caps])], 49⟩) (fun (k : Nat) => p.tN - k) 0 (Nat.zero_le _) (weak [] [] ?_ ?_ ?_ rfl) fun k hk => ?_
    · (simp -dsimp only [↓RP, RQ0, RQ1, RQ2, RQ3, implies_true, forall_const, Nat.reduceMul, reduceIte, reduceCtorEq, Nat.reduceAdd, Nat.reduceEqDiff, Nat.reduceLT, Nat.reduceLeDiff, Pool.L, Pool.H]); all_goals simp
    · (simp -dsimp only [↓RP, RQ0, RQ1, RQ2, RQ3, implies_true, forall_const, Nat.reduceMul, reduceIte, reduceCtorEq, Nat.reduceAdd, Nat.reduceEqDiff, Nat.reduceLT, Nat.reduceLeDiff, fnd, at0]); all_goals (try simp)
      all_goals exact wkL_refl caps hold
    · (simp -dsimp only [↓RP, RQ0, RQ1, RQ2, RQ3, implies_true, forall_const, Nat.reduceMul, reduceIte, reduceCtorEq, Nat.reduceAdd, Nat.reduceEqDiff, Nat.reduceLT, Nat.reduceLeDiff]); all_goals simp
    by_cases hlt : k < p.tN
    · have hle : p.L + k ≤ p.H := by unfold Pool.tN at hlt; omega
      (repeat' (first | with_reducible refine splitVC_d (fun _ => ?_) (fun _ => ?_) | ((with_reducible refine And.intro ?_ ?_); focus (first | trivial | (simp only [InK]; omega) | omega | (simp only [InK, ne_eq, and_true, true_and]; omega))) | simp -dsimp only [↓RP, RQ0, RQ1, RQ2, RQ3, implies_true, forall_const, Nat.reduceMul, reduceIte, reduceCtorEq, Nat.reduceAdd, Nat.reduceEqDiff, Nat.reduceLT, Nat.reduceLeDiff, ty2, ty3, ty4, ty25, ty84, ty88, ty105, ty107, ty109, ty112, eq109, pl88, pl109, I, D, Int.toNat_natCast, Nat.mul_one, Nat.add_zero, fnd, at0, Go.Proofs.Try.results80, Go.Proofs.Try.results87]))
      · refine yieldI follows (by rfl) R (by rfl) (by rfl) fun out2 => ?_
        (repeat' (first | with_reducible refine splitVC_d (fun _ => ?_) (fun _ => ?_) | ((with_reducible refine And.intro ?_ ?_); focus (first | trivial | (simp only [InK]; omega) | omega | (simp only [InK, ne_eq, and_true, true_and]; omega))) | simp -dsimp only [↓RP, RQ0, RQ1, RQ2, RQ3, implies_true, forall_const, Nat.reduceMul, reduceIte, reduceCtorEq, Nat.reduceAdd, Nat.reduceEqDiff, Nat.reduceLT, Nat.reduceLeDiff, ty2, ty3, ty4, ty25, ty84, ty88, ty105, ty107, ty109, ty112, eq109, pl88, pl109, I, D, Int.toNat_natCast, Nat.mul_one, Nat.add_zero, fnd, at0, Go.Proofs.Try.results80, Go.Proofs.Try.results87]))
        refine callVC (hw k hlt) (by simp only [Pool.tot, Go.Po.tot, I, Pool.tAll, Pool.tMost, Pool.tFew]; (simp -dsimp only [↓RP, RQ0, RQ1, RQ2, RQ3, implies_true, forall_const, Nat.reduceMul, reduceIte, reduceCtorEq, Nat.reduceAdd, Nat.reduceEqDiff, Nat.reduceLT, Nat.reduceLeDiff]); exact subL_refl caps hold) (by (simp -dsimp only [↓RP, RQ0, RQ1, RQ2, RQ3, implies_true, forall_const, Nat.reduceMul, reduceIte, reduceCtorEq, Nat.reduceAdd, Nat.reduceEqDiff, Nat.reduceLT, Nat.reduceLeDiff, I])) ?_
        rcases k with _ | m
        · (repeat' (first | with_reducible refine splitVC_d (fun _ => ?_) (fun _ => ?_) | ((with_reducible refine And.intro ?_ ?_); focus (first | trivial | (simp only [InK]; omega) | omega | (simp only [InK, ne_eq, and_true, true_and]; omega))) | simp -dsimp only [↓RP, RQ0, RQ1, RQ2, RQ3, implies_true, forall_const, Nat.reduceMul, reduceIte, reduceCtorEq, Nat.reduceAdd, Nat.reduceEqDiff, Nat.reduceLT, Nat.reduceLeDiff, ty2, ty3, ty4, ty25, ty84, ty88, ty105, ty107, ty109, ty112, eq109, pl88, pl109, I, D, Int.toNat_natCast, Nat.mul_one, Nat.add_zero, fnd, at0, Go.Proofs.Try.results80, Go.Proofs.Try.results87]))
          refine ⟨1, by omega, by omega, weak [] [] ?_ ?_ ?_ rfl⟩
          · (simp -dsimp only [↓RP, RQ0, RQ1, RQ2, RQ3, implies_true, forall_const, Nat.reduceMul, reduceIte, reduceCtorEq, Nat.reduceAdd, Nat.reduceEqDiff, Nat.reduceLT, Nat.reduceLeDiff]); all_goals simp
          · (simp -dsimp only [↓RP, RQ0, RQ1, RQ2, RQ3, implies_true, forall_const, Nat.reduceMul, reduceIte, reduceCtorEq, Nat.reduceAdd, Nat.reduceEqDiff, Nat.reduceLT, Nat.reduceLeDiff, fnd, at0, am, Pool.tAll, Pool.tMost, Pool.tFew]); all_goals simp
            all_goals exact wkL_refl caps hold
          · (simp -dsimp only [↓RP, RQ0, RQ1, RQ2, RQ3, implies_true, forall_const, Nat.reduceMul, reduceIte, reduceCtorEq, Nat.reduceAdd, Nat.reduceEqDiff, Nat.reduceLT, Nat.reduceLeDiff]); all_goals simp
        · (repeat' (first | with_reducible refine splitVC_d (fun _ => ?_) (fun _ => ?_) | ((with_reducible refine And.intro ?_ ?_); focus (first | trivial | (simp only [InK]; omega) | omega | (simp only [InK, ne_eq, and_true, true_and]; omega))) | simp -dsimp only [↓RP, RQ0, RQ1, RQ2, RQ3, implies_true, forall_const, Nat.reduceMul, reduceIte, reduceCtorEq, Nat.reduceAdd, Nat.reduceEqDiff, Nat.reduceLT, Nat.reduceLeDiff, ty2, ty3, ty4, ty25, ty84, ty88, ty105, ty107, ty109, ty112, eq109, pl88, pl109, I, D, Int.toNat_natCast, Nat.mul_one, Nat.add_zero, fnd, at0, Go.Proofs.Try.results80, Go.Proofs.Try.results87]))
          · rename_i hless
            refine ⟨m + 2, by omega, by omega, weak [] [] ?_ ?_ ?_ rfl⟩
            · (simp -dsimp only [↓RP, RQ0, RQ1, RQ2, RQ3, implies_true, forall_const, Nat.reduceMul, reduceIte, reduceCtorEq, Nat.reduceAdd, Nat.reduceEqDiff, Nat.reduceLT, Nat.reduceLeDiff]); all_goals simp
              all_goals omega
            · (simp -dsimp only [↓RP, RQ0, RQ1, RQ2, RQ3, implies_true, forall_const, Nat.reduceMul, reduceIte, reduceCtorEq, Nat.reduceAdd, Nat.reduceEqDiff, Nat.reduceLT, Nat.reduceLeDiff, fnd, at0, am, hless, Pool.tAll, Pool.tMost, Pool.tFew]); all_goals simp
              all_goals exact wkL_refl caps hold
            · (simp -dsimp only [↓RP, RQ0, RQ1, RQ2, RQ3, implies_true, forall_const, Nat.reduceMul, reduceIte, reduceCtorEq, Nat.reduceAdd, Nat.reduceEqDiff, Nat.reduceLT, Nat.reduceLeDiff]); all_goals simp
          · rename_i hless
            refine ⟨m + 2, by omega, by omega, weak [] [] ?_ ?_ ?_ rfl⟩
            · (simp -dsimp only [↓RP, RQ0, RQ1, RQ2, RQ3, implies_true, forall_const, Nat.reduceMul, reduceIte, reduceCtorEq, Nat.reduceAdd, Nat.reduceEqDiff, Nat.reduceLT, Nat.reduceLeDiff]); all_goals simp
              all_goals omega
            · (simp -dsimp only [↓RP, RQ0, RQ1, RQ2, RQ3, implies_true, forall_const, Nat.reduceMul, reduceIte, reduceCtorEq, Nat.reduceAdd, Nat.reduceEqDiff, Nat.reduceLT, Nat.reduceLeDiff, fnd, at0, am, hless, Pool.tAll, Pool.tMost, Pool.tFew]); all_goals simp
              all_goals exact wkL_refl caps hold
            · (simp -dsimp only [↓RP, RQ0, RQ1, RQ2, RQ3, implies_true, forall_const, Nat.reduceMul, reduceIte, reduceCtorEq, Nat.reduceAdd, Nat.reduceEqDiff, Nat.reduceLT, Nat.reduceLeDiff]); all_goals simp
      · exfalso; omega
    · obtain ⟨m, hm⟩ : ∃ m, p.tN = m + 1 := ⟨p.tN - 1, by unfold Pool.tN; omega⟩
      have hkm : k = m + 1 := by omega
      subst hkm
      (repeat' (first | with_reducible refine splitVC_d (fun _ => ?_) (fun _ => ?_) | ((with_reducible refine And.intro ?_ ?_); focus (first | trivial | (simp only [InK]; omega) | omega | (simp only [InK, ne_eq, and_true, true_and]; omega))) | simp -dsimp only [↓RP, RQ0, RQ1, RQ2, RQ3, implies_true, forall_const, Nat.reduceMul, reduceIte, reduceCtorEq, Nat.reduceAdd, Nat.reduceEqDiff, Nat.reduceLT, Nat.reduceLeDiff, ty2, ty3, ty4, ty25, ty84, ty88, ty105, ty107, ty109, ty112, eq109, pl88, pl109, I, D, Int.toNat_natCast, Nat.mul_one, Nat.add_zero, fnd, at0, Go.Proofs.Try.results80, Go.Proofs.Try.results87]))
      · exfalso; unfold Pool.tN at hlt; omega
      rw [hm]
      simp only [Nat.add_sub_cancel, Pool.tot, Go.Po.tot, I]
      (simp -dsimp only [↓RP, RQ0, RQ1, RQ2, RQ3, implies_true, forall_const, Nat.reduceMul, reduceIte, reduceCtorEq, Nat.reduceAdd, Nat.reduceEqDiff, Nat.reduceLT, Nat.reduceLeDiff])
end Go.Po
end
section
set_option linter.unusedSimpArgs false
set_option linter.unusedVariables false
set_option maxRecDepth 100000
set_option maxHeartbeats 8000000
namespace Go.Po
open Go.Sx
def Pool.wW (p : Pool) (r : Nat) (d : Int) (k : Nat) : Int := p.lf (p.tAll k) (p.tMost r k) d
def Pool.wB (p : Pool) (r : Nat) (d : Int) (k : Nat) : Int := -p.lf (p.tAll k) (p.tFew r k) d
def Pool.iW (p : Pool) (r : Nat) (d : Int) : Nat := am (p.wW r d) (p.tN - 1)
def Pool.iB (p : Pool) (r : Nat) (d : Int) : Nat := am (p.wB r d) (p.tN - 1)
theorem am_le (w : Nat → Int) : ∀ m, am w m ≤ m
  | 0 => Nat.le_refl _
  | m + 1 => by
    have := am_le w m
    simp only [am]
    split <;> omega
theorem t_bounds (p : Pool) (h : p.Fine) (r k : Nat) (hr : r < p.n) (hk : k < p.tN) : p.L ≤ p.tAll k ∧ p.tAll k ≤ p.H ∧ 0 ≤ p.tMost r k ∧ p.tMost r k ≤ 200 ∧ 0 ≤ p.tFew r k ∧ p.tFew r k ≤ 10000 := by
  have h1 := LH p h
  have h2 := h.rg r hr
  unfold Pool.tN at hk
  unfold Pool.tMost Pool.tFew Pool.tAll
  omega
theorem c65 (p : Pool) (h : p.Fine) (r : Nat) (hr : r < p.n) (d : Int) (h3 : 0 ≤ d) (h4 : d ≤ 100000) : Contract Go.Proofs.Try.prog 65 [D p r, I d] (p.tot r (p.iW r d)) := by
  refine contract_of Go.Proofs.Try.func65 rfl (by kernel_rfl) follows (by kernel_rfl) _ _ (by rw [Go.Proofs.Try.ntmps65]; simp) (by simp only [OldL, D_old]; simp [Old, I]) ?_
  (repeat' (first | with_reducible refine splitVC_d (fun _ => ?_) (fun _ => ?_) | ((with_reducible refine And.intro ?_ ?_); focus (first | trivial | (simp only [InK]; omega) | omega | (simp only [InK, ne_eq, and_true, true_and]; omega))) | simp -dsimp only [↓RP, RQ0, RQ1, RQ2, RQ3, implies_true, forall_const, Nat.reduceMul, reduceIte, reduceCtorEq, Nat.reduceAdd, Nat.reduceEqDiff, Nat.reduceLT, Nat.reduceLeDiff, ty2, ty84, ty88, ty105, I, Go.Proofs.Try.results65]))
  refine callVC_old (c81 p r) (by simp only [SubL]; exact ⟨D_sub' _ p r, trivial⟩) ?_
  (repeat' (first | with_reducible refine splitVC_d (fun _ => ?_) (fun _ => ?_) | ((with_reducible refine And.intro ?_ ?_); focus (first | trivial | (simp only [InK]; omega) | omega | (simp only [InK, ne_eq, and_true, true_and]; omega))) | simp -dsimp only [↓RP, RQ0, RQ1, RQ2, RQ3, implies_true, forall_const, Nat.reduceMul, reduceIte, reduceCtorEq, Nat.reduceAdd, Nat.reduceEqDiff, Nat.reduceLT, Nat.reduceLeDiff, ty2, ty84, ty88, ty105, I, Go.Proofs.Try.results65]))
  refine callVC (c80 p h r hr 82 [.ref false 1 (fun _ => D p r), .ref false 1 (fun _ => I d)] (p.wW r d) (by simp only [OldL, Old, D_old]; simp [Old, I]) fun k hk => ?_) ?_ ?_ ?_
  · have := t_bounds p h r k hr hk
    exact c82 p h r _ _ _ d (by omega) (by omega) h3 h4 (by omega) (by omega)
  · (simp -dsimp only [↓RP, RQ0, RQ1, RQ2, RQ3, implies_true, forall_const, Nat.reduceMul, reduceIte, reduceCtorEq, Nat.reduceAdd, Nat.reduceEqDiff, Nat.reduceLT, Nat.reduceLeDiff, I])
    refine ⟨fun j hj => D_sub' _ p r, fun j hj => ?_, fun j hj => ?_⟩
    · have : j = 0 := by omega
      subst this
      exact ⟨D_sub' _ p r, hj⟩
    · have : j = 0 := by omega
      subst this
      exact ⟨rfl, hj⟩
  · (simp -dsimp only [↓RP, RQ0, RQ1, RQ2, RQ3, implies_true, forall_const, Nat.reduceMul, reduceIte, reduceCtorEq, Nat.reduceAdd, Nat.reduceEqDiff, Nat.reduceLT, Nat.reduceLeDiff, Pool.tot, tot, I])
  (repeat' (first | with_reducible refine splitVC_d (fun _ => ?_) (fun _ => ?_) | ((with_reducible refine And.intro ?_ ?_); focus (first | trivial | (simp only [InK]; omega) | omega | (simp only [InK, ne_eq, and_true, true_and]; omega))) | simp -dsimp only [↓RP, RQ0, RQ1, RQ2, RQ3, implies_true, forall_const, Nat.reduceMul, reduceIte, reduceCtorEq, Nat.reduceAdd, Nat.reduceEqDiff, Nat.reduceLT, Nat.reduceLeDiff, ty2, ty84, ty88, ty105, I, Pool.tot, tot, Go.Proofs.Try.results65]))
  rfl
theorem c66 (p : Pool) (h : p.Fine) (r : Nat) (hr : r < p.n) (d : Int) (h3 : 0 ≤ d) (h4 : d ≤ 100000) : Contract Go.Proofs.Try.prog 66 [D p r, I d] (p.tot r (p.iB r d)) := by
  refine contract_of Go.Proofs.Try.func66 rfl (by kernel_rfl) follows (by kernel_rfl) _ _ (by rw [Go.Proofs.Try.ntmps66]; simp) (by simp only [OldL, D_old]; simp [Old, I]) ?_
  (repeat' (first | with_reducible refine splitVC_d (fun _ => ?_) (fun _ => ?_) | ((with_reducible refine And.intro ?_ ?_); focus (first | trivial | (simp only [InK]; omega) | omega | (simp only [InK, ne_eq, and_true, true_and]; omega))) | simp -dsimp only [↓RP, RQ0, RQ1, RQ2, RQ3, implies_true, forall_const, Nat.reduceMul, reduceIte, reduceCtorEq, Nat.reduceAdd, Nat.reduceEqDiff, Nat.reduceLT, Nat.reduceLeDiff, ty2, ty84, ty88, ty105, I, Go.Proofs.Try.results66]))
  refine callVC_old (c81 p r) (by simp only [SubL]; exact ⟨D_sub' _ p r, trivial⟩) ?_
  (repeat' (first | with_reducible refine splitVC_d (fun _ => ?_) (fun _ => ?_) | ((with_reducible refine And.intro ?_ ?_); focus (first | trivial | (simp only [InK]; omega) | omega | (simp only [InK, ne_eq, and_true, true_and]; omega))) | simp -dsimp only [↓RP, RQ0, RQ1, RQ2, RQ3, implies_true, forall_const, Nat.reduceMul, reduceIte, reduceCtorEq, Nat.reduceAdd, Nat.reduceEqDiff, Nat.reduceLT, Nat.reduceLeDiff, ty2, ty84, ty88, ty105, I, Go.Proofs.Try.results66]))
  refine callVC (c80 p h r hr 83 [.ref false 1 (fun _ => D p r), .ref false 1 (fun _ => I d)] (p.wB r d) (by simp only [OldL, Old, D_old]; simp [Old, I]) fun k hk => ?_) ?_ ?_ ?_
  · have := t_bounds p h r k hr hk
    exact c83 p h r _ _ _ d (by omega) (by omega) h3 h4 (by omega) (by omega)
  · (simp -dsimp only [↓RP, RQ0, RQ1, RQ2, RQ3, implies_true, forall_const, Nat.reduceMul, reduceIte, reduceCtorEq, Nat.reduceAdd, Nat.reduceEqDiff, Nat.reduceLT, Nat.reduceLeDiff, I])
    refine ⟨fun j hj => D_sub' _ p r, fun j hj => ?_, fun j hj => ?_⟩
    · have : j = 0 := by omega
      subst this
      exact ⟨D_sub' _ p r, hj⟩
    · have : j = 0 := by omega
      subst this
      exact ⟨rfl, hj⟩
  · (simp -dsimp only [↓RP, RQ0, RQ1, RQ2, RQ3, implies_true, forall_const, Nat.reduceMul, reduceIte, reduceCtorEq, Nat.reduceAdd, Nat.reduceEqDiff, Nat.reduceLT, Nat.reduceLeDiff, Pool.tot, tot, I])
  (repeat' (first | with_reducible refine splitVC_d (fun _ => ?_) (fun _ => ?_) | ((with_reducible refine And.intro ?_ ?_); focus (first | trivial | (simp only [InK]; omega) | omega | (simp only [InK, ne_eq, and_true, true_and]; omega))) | simp -dsimp only [↓RP, RQ0, RQ1, RQ2, RQ3, implies_true, forall_const, Nat.reduceMul, reduceIte, reduceCtorEq, Nat.reduceAdd, Nat.reduceEqDiff, Nat.reduceLT, Nat.reduceLeDiff, ty2, ty84, ty88, ty105, I, Pool.tot, tot, Go.Proofs.Try.results66]))
  rfl
def Pool.wst (p : Pool) (r : Nat) (d : Int) : Int := p.wW r d (p.iW r d)
theorem iW_lt (p : Pool) (r : Nat) (d : Int) : p.iW r d < p.tN := by
  have := am_le (p.wW r d) (p.tN - 1)
  unfold Pool.iW
  unfold Pool.tN at *
  omega
theorem iB_lt (p : Pool) (r : Nat) (d : Int) : p.iB r d < p.tN := by
  have := am_le (p.wB r d) (p.tN - 1)
  unfold Pool.iB
  unfold Pool.tN at *
  omega
theorem c70 (p : Pool) (h : p.Fine) (r : Nat) (hr : r < p.n) (d : Int) (h3 : 0 ≤ d) (h4 : d ≤ 100000) : Contract Go.Proofs.Try.prog 70 [D p r, I d] (.val (.bool (decide (0 ≤ p.wst r d)))) := by
  refine contract_of Go.Proofs.Try.func70 rfl (by kernel_rfl) follows (by kernel_rfl) _ _ (by rw [Go.Proofs.Try.ntmps70]; simp) (by simp only [OldL, D_old]; simp [Old, I]) ?_
  have hb := t_bounds p h r (p.iW r d) hr (iW_lt p r d)
  (repeat' (first | with_reducible refine splitVC_d (fun _ => ?_) (fun _ => ?_) | ((with_reducible refine And.intro ?_ ?_); focus (first | trivial | (simp only [InK]; omega) | omega | (simp only [InK, ne_eq, and_true, true_and]; omega))) | simp -dsimp only [↓RP, RQ0, RQ1, RQ2, RQ3, implies_true, forall_const, Nat.reduceMul, reduceIte, reduceCtorEq, Nat.reduceAdd, Nat.reduceEqDiff, Nat.reduceLT, Nat.reduceLeDiff, ty2, ty84, ty88, ty105, I, Go.Proofs.Try.results70]))
  refine callVC (c65 p h r hr d h3 h4) (by simp only [SubL]; exact ⟨D_sub' _ p r, by (simp -dsimp only [↓RP, RQ0, RQ1, RQ2, RQ3, implies_true, forall_const, Nat.reduceMul, reduceIte, reduceCtorEq, Nat.reduceAdd, Nat.reduceEqDiff, Nat.reduceLT, Nat.reduceLeDiff, I])⟩) (by (simp -dsimp only [↓RP, RQ0, RQ1, RQ2, RQ3, implies_true, forall_const, Nat.reduceMul, reduceIte, reduceCtorEq, Nat.reduceAdd, Nat.reduceEqDiff, Nat.reduceLT, Nat.reduceLeDiff, Pool.tot, tot, I])) ?_
  (repeat' (first | with_reducible refine splitVC_d (fun _ => ?_) (fun _ => ?_) | ((with_reducible refine And.intro ?_ ?_); focus (first | trivial | (simp only [InK]; omega) | omega | (simp only [InK, ne_eq, and_true, true_and]; omega))) | simp -dsimp only [↓RP, RQ0, RQ1, RQ2, RQ3, implies_true, forall_const, Nat.reduceMul, reduceIte, reduceCtorEq, Nat.reduceAdd, Nat.reduceEqDiff, Nat.reduceLT, Nat.reduceLeDiff, ty2, ty84, ty88, ty105, I, Pool.tot, tot, Go.Proofs.Try.results70]))
  refine callVC (c67 p h r (p.tAll (p.iW r d)) (p.tMost r (p.iW r d)) (p.tFew r (p.iW r d)) (p.tMost r (p.iW r d)) d (by omega) (by omega) h3 h4 (by omega) (by omega)) (by simp only [SubL]; exact ⟨D_sub' _ p r, by (simp -dsimp only [↓RP, RQ0, RQ1, RQ2, RQ3, implies_true, forall_const, Nat.reduceMul, reduceIte, reduceCtorEq, Nat.reduceAdd, Nat.reduceEqDiff, Nat.reduceLT, Nat.reduceLeDiff, tot, I])⟩) (by (simp -dsimp only [↓RP, RQ0, RQ1, RQ2, RQ3, implies_true, forall_const, Nat.reduceMul, reduceIte, reduceCtorEq, Nat.reduceAdd, Nat.reduceEqDiff, Nat.reduceLT, Nat.reduceLeDiff, I])) ?_
  (repeat' (first | with_reducible refine splitVC_d (fun _ => ?_) (fun _ => ?_) | ((with_reducible refine And.intro ?_ ?_); focus (first | trivial | (simp only [InK]; omega) | omega | (simp only [InK, ne_eq, and_true, true_and]; omega))) | simp -dsimp only [↓RP, RQ0, RQ1, RQ2, RQ3, implies_true, forall_const, Nat.reduceMul, reduceIte, reduceCtorEq, Nat.reduceAdd, Nat.reduceEqDiff, Nat.reduceLT, Nat.reduceLeDiff, ty2, ty84, ty88, ty105, I, Pool.tot, tot, Go.Proofs.Try.results70]))
  rfl
theorem am_min (w : Nat → Int) : ∀ m k, k ≤ m → w (am w m) ≤ w k
  | 0, k, h => by
    have : k = 0 := by omega
    subst this; exact Int.le_refl _
  | m + 1, k, h => by
    simp only [am]
    by_cases hk : k = m + 1
    · subst hk
      split <;> omega
    · have := am_min w m k (by omega)
      split <;> omega
theorem wst_le (p : Pool) (r : Nat) (d : Int) (k : Nat) (hk : k < p.tN) : p.wst r d ≤ p.wW r d k := am_min (p.wW r d) (p.tN - 1) k (by omega)
theorem wst_mono (p : Pool) (h : p.Fine) (r : Nat) (hr : r < p.n) (d d' : Int) (hd : d ≤ d') : p.wst r d' ≤ p.wst r d := by
  have h1 := wst_le p r d' (p.iW r d) (iW_lt p r d)
  have h2 := t_bounds p h r (p.iW r d) hr (iW_lt p r d)
  refine Int.le_trans h1 ?_
  unfold Pool.wst Pool.wW Pool.lf
  have : d * p.tMost r (p.iW r d) ≤ d' * p.tMost r (p.iW r d) := Int.mul_le_mul_of_nonneg_right hd h2.2.2.1
  omega
structure Pool.G (p : Pool) (r : Nat) (g : Int) : Prop where
  lo : 0 ≤ g
  hi : g ≤ Int.tdiv 100000 p.step
  safe : g = 0 ∨ 0 ≤ p.wst r (g * p.step)
  not : ∀ j, g < j → j ≤ Int.tdiv 100000 p.step → p.wst r (j * p.step) < 0
theorem c71 (p : Pool) (h : p.Fine) (r : Nat) (hr : r < p.n) (g : Int) (hg : p.G r g) : Contract Go.Proofs.Try.prog 71 [D p r] (I (g * p.step)) := by
  refine contract_of Go.Proofs.Try.func71 rfl (by kernel_rfl) follows (by kernel_rfl) _ _ (by rw [Go.Proofs.Try.ntmps71]; simp) (by simp only [OldL, D_old]; simp [Old, I]) ?_
  have hs := h.step1
  have hs2 := h.step2
  have hM0 : 0 ≤ Int.tdiv 100000 p.step := Int.tdiv_nonneg (by omega) (by omega)
  have hMs : Int.tdiv 100000 p.step * p.step ≤ 100000 := by
    have := Int.tmod_add_tdiv_mul 100000 p.step
    have := Int.tmod_nonneg p.step (show 0 ≤ (100000 : Int) by omega)
    omega
  have hM1 : Int.tdiv 100000 p.step ≤ 100000 := by
    have : Int.tdiv 100000 p.step * 1 ≤ Int.tdiv 100000 p.step * p.step := Int.mul_le_mul_of_nonneg_left hs hM0
    omega
  have hms : ∀ m : Int, 0 ≤ m → m ≤ Int.tdiv 100000 p.step → 0 ≤ m * p.step ∧ m * p.step ≤ 100000 := fun m h0 h1 => by
    have k1 : m * p.step ≤ Int.tdiv 100000 p.step * p.step := Int.mul_le_mul_of_nonneg_right h1 (by omega)
    have k2 : 0 ≤ m * p.step := Int.mul_nonneg h0 (by omega)
    omega
  have hG0 := hg.lo
  have hG1 := hg.hi
  generalize hM : Int.tdiv 100000 p.step = M at *
  conv => arg 4; unfold D
  (repeat' (first | with_reducible refine splitVC_d (fun _ => ?_) (fun _ => ?_) | ((with_reducible refine And.intro ?_ ?_); focus (first | trivial | (simp only [InK]; omega) | omega | (simp only [InK, ne_eq, and_true, true_and]; omega))) | simp -dsimp only [↓RP, RQ0, RQ1, RQ2, RQ3, implies_true, forall_const, Nat.reduceMul, reduceIte, reduceCtorEq, Nat.reduceAdd, Nat.reduceEqDiff, Nat.reduceLT, Nat.reduceLeDiff, ty2, ty24, ty84, ty88, ty105, ty112, dkR_4, I, hM, Go.Proofs.Try.results71]))
  refine loop_vc (fun (x : Int × Int) => 0 ≤ x.1 ∧ x.1 ≤ g ∧ g ≤ x.2 ∧ x.2 ≤ M) (fun (x : Int × Int) => ⟨[(0, D p r), (3, .val (.int .i64 x.1)), (4, .val (.int .i64 x.2)), (5, .fn (.func 70) [D p r] [])], [], 11⟩) (fun (x : Int × Int) => (x.2 - x.1).toNat) (0, M) (by omega) (weak [] [] ?_ ?_ ?_) fun x hx => ?_
  · (simp -dsimp only [↓RP, RQ0, RQ1, RQ2, RQ3, implies_true, forall_const, Nat.reduceMul, reduceIte, reduceCtorEq, Nat.reduceAdd, Nat.reduceEqDiff, Nat.reduceLT, Nat.reduceLeDiff, D])
    exact ⟨fun e => e, fun j hj => wk_refl _ (by have := D_old p r; simp only [D, Old, true_and] at this; exact this j hj)⟩
  · (simp -dsimp only [↓RP, RQ0, RQ1, RQ2, RQ3, implies_true, forall_const, Nat.reduceMul, reduceIte, reduceCtorEq, Nat.reduceAdd, Nat.reduceEqDiff, Nat.reduceLT, Nat.reduceLeDiff])
  · (simp -dsimp only [↓RP, RQ0, RQ1, RQ2, RQ3, implies_true, forall_const, Nat.reduceMul, reduceIte, reduceCtorEq, Nat.reduceAdd, Nat.reduceEqDiff, Nat.reduceLT, Nat.reduceLeDiff])
  obtain ⟨lo, hi⟩ := x
  simp only at hx
  by_cases hlt : lo < hi
  · have hmid := hms ((lo + hi + 1).tdiv 2)
    have q1 : lo < (lo + hi + 1).tdiv 2 ∧ (lo + hi + 1).tdiv 2 ≤ hi := by
      rw [Int.tdiv_eq_ediv_of_nonneg (by omega)]; omega
    have q2 := hmid (by omega) (by omega)
    generalize hmm : (lo + hi + 1).tdiv 2 = mid at *
    (repeat' (first | with_reducible refine splitVC_d (fun _ => ?_) (fun _ => ?_) | ((with_reducible refine And.intro ?_ ?_); focus (first | trivial | (simp only [InK]; omega) | omega | (simp only [InK, ne_eq, and_true, true_and]; omega))) | simp -dsimp only [↓RP, RQ0, RQ1, RQ2, RQ3, implies_true, forall_const, Nat.reduceMul, reduceIte, reduceCtorEq, Nat.reduceAdd, Nat.reduceEqDiff, Nat.reduceLT, Nat.reduceLeDiff, ty2, ty24, ty84, ty88, ty105, ty112, dkR_4, I, D, hmm, Go.Proofs.Try.results71]))
    · refine callVC (c70 p h r hr (mid * p.step) q2.1 q2.2) (by simp only [SubL]; exact ⟨D_sub' _ p r, by (simp -dsimp only [↓RP, RQ0, RQ1, RQ2, RQ3, implies_true, forall_const, Nat.reduceMul, reduceIte, reduceCtorEq, Nat.reduceAdd, Nat.reduceEqDiff, Nat.reduceLT, Nat.reduceLeDiff, I])⟩) (by (simp -dsimp only [↓RP, RQ0, RQ1, RQ2, RQ3, implies_true, forall_const, Nat.reduceMul, reduceIte, reduceCtorEq, Nat.reduceAdd, Nat.reduceEqDiff, Nat.reduceLT, Nat.reduceLeDiff, I])) ?_
      (repeat' (first | with_reducible refine splitVC_d (fun _ => ?_) (fun _ => ?_) | ((with_reducible refine And.intro ?_ ?_); focus (first | trivial | (simp only [InK]; omega) | omega | (simp only [InK, ne_eq, and_true, true_and]; omega))) | simp -dsimp only [↓RP, RQ0, RQ1, RQ2, RQ3, implies_true, forall_const, Nat.reduceMul, reduceIte, reduceCtorEq, Nat.reduceAdd, Nat.reduceEqDiff, Nat.reduceLT, Nat.reduceLeDiff, ty2, ty24, ty84, ty88, ty105, ty112, dkR_4, I, D, Go.Proofs.Try.results71]))
      · rename_i hsafe
        have : mid ≤ g := by
          refine Classical.byContradiction fun hno => ?_
          have := hg.not mid (by omega) (by omega)
          omega
        refine ⟨(mid, hi), by omega, by simp only; omega, weak [] [] ?_ ?_ ?_⟩
        · (simp -dsimp only [↓RP, RQ0, RQ1, RQ2, RQ3, implies_true, forall_const, Nat.reduceMul, reduceIte, reduceCtorEq, Nat.reduceAdd, Nat.reduceEqDiff, Nat.reduceLT, Nat.reduceLeDiff, D])
          exact ⟨fun e => e, fun j hj => wk_refl _ (by have := D_old p r; simp only [D, Old, true_and] at this; exact this j hj)⟩
        · (simp -dsimp only [↓RP, RQ0, RQ1, RQ2, RQ3, implies_true, forall_const, Nat.reduceMul, reduceIte, reduceCtorEq, Nat.reduceAdd, Nat.reduceEqDiff, Nat.reduceLT, Nat.reduceLeDiff])
        · (simp -dsimp only [↓RP, RQ0, RQ1, RQ2, RQ3, implies_true, forall_const, Nat.reduceMul, reduceIte, reduceCtorEq, Nat.reduceAdd, Nat.reduceEqDiff, Nat.reduceLT, Nat.reduceLeDiff])
      · rename_i hsafe
        have : g ≤ mid - 1 := by
          refine Classical.byContradiction fun hno => ?_
          rcases hg.safe with h0 | h0
          · omega
          · have := wst_mono p h r hr (mid * p.step) (g * p.step) (Int.mul_le_mul_of_nonneg_right (by omega) (by omega))
            omega
        refine ⟨(lo, mid - 1), by simp only; omega, by simp only; omega, weak [] [] ?_ ?_ ?_⟩
        · (simp -dsimp only [↓RP, RQ0, RQ1, RQ2, RQ3, implies_true, forall_const, Nat.reduceMul, reduceIte, reduceCtorEq, Nat.reduceAdd, Nat.reduceEqDiff, Nat.reduceLT, Nat.reduceLeDiff, D])
          exact ⟨fun e => e, fun j hj => wk_refl _ (by have := D_old p r; simp only [D, Old, true_and] at this; exact this j hj)⟩
        · (simp -dsimp only [↓RP, RQ0, RQ1, RQ2, RQ3, implies_true, forall_const, Nat.reduceMul, reduceIte, reduceCtorEq, Nat.reduceAdd, Nat.reduceEqDiff, Nat.reduceLT, Nat.reduceLeDiff])
        · (simp -dsimp only [↓RP, RQ0, RQ1, RQ2, RQ3, implies_true, forall_const, Nat.reduceMul, reduceIte, reduceCtorEq, Nat.reduceAdd, Nat.reduceEqDiff, Nat.reduceLT, Nat.reduceLeDiff])
    · exfalso; omega
  · have q3 := hms lo (by omega) (by omega)
    have q4 : lo = g := by omega
    (repeat' (first | with_reducible refine splitVC_d (fun _ => ?_) (fun _ => ?_) | ((with_reducible refine And.intro ?_ ?_); focus (first | trivial | (simp only [InK]; omega) | omega | (simp only [InK, ne_eq, and_true, true_and]; omega))) | simp -dsimp only [↓RP, RQ0, RQ1, RQ2, RQ3, implies_true, forall_const, Nat.reduceMul, reduceIte, reduceCtorEq, Nat.reduceAdd, Nat.reduceEqDiff, Nat.reduceLT, Nat.reduceLeDiff, ty2, ty24, ty84, ty88, ty105, ty112, dkR_4, I, D, Go.Proofs.Try.results71]))
    · exfalso; omega
    rw [q4]
end Go.Po
end
