/- A part of the proof. -/
import Derived.Test.YtnpannhbeapidaaLJ
import Derived.Test.YtnpannhbeapidaaLD
import Derived.Test.YtnpannhbeapidaaLA
import Derived.Test.YtnpannhbeapidaaES
section
set_option linter.unusedSimpArgs false
set_option linter.unusedVariables false
set_option linter.defProp false
set_option maxRecDepth 100000
set_option maxHeartbeats 16000000
namespace Go.Lg
open Go.Sx
theorem check_ok {c a d : Curve} (hc : c.Fine) (ha : Row a) (hd : Row d) (hm : a.m = d.m) (h1 : ∀ t, t ≤ a.m → d.S t ≤ a.S t) (h2 : ∀ t, t ≤ a.m → addS c a t ≤ d.S t) : checkAddV c a d = 0 := by
  have hr : rowsV a d = 0 := by
    unfold rowsV
    rw [if_pos (row_rErr ha), if_pos (row_rErr hd), if_pos hm, if_pos (show notMore a d from fun t ht => h1 t (by omega))]
  unfold checkAddV
  rw [if_pos (Curve.err_fine hc), if_pos hr, if_pos (fun t ht => h2 t (by omega))]
theorem check_lag {c a d : Curve} (hc : c.Fine) (ha : Row a) (hd : Row d) (hm : a.m = d.m) (h1 : ∀ t, t ≤ a.m → d.S t ≤ a.S t) (t : Nat) (ht : t ≤ a.m) (h2 : d.S t < addS c a t) : checkAddV c a d = 18 := by
  have hr : rowsV a d = 0 := by
    unfold rowsV
    rw [if_pos (row_rErr ha), if_pos (row_rErr hd), if_pos hm, if_pos (show notMore a d from fun t ht => h1 t (by omega))]
  unfold checkAddV
  rw [if_pos (Curve.err_fine hc), if_pos hr, if_neg (fun h => by have := h t (by omega); omega)]
theorem m38 (c a d : Curve) (x : Int) (hc : c.Fine) (ha : Row a) (hd : Row d) (h : checkAddV c a d = x) : Contract Go.Proofs.Try.prog 38 [c.sv, a.sv, d.sv] (I x) := by
  have := c38 c a d (by have := hc.m6; omega) (by have := ha.m60; omega) (by have := hd.m60; omega)
  rwa [h] at this
def difR (n : Nat) (N : Nat → Int) : Curve := ⟨n, fun j => N (j + 1) - N j⟩
theorem difR_S (n : Nat) (N : Nat → Int) (h : N 0 = 0) : (difR n N).S = N := by
  funext t
  show sumTo (fun j => N (j + 1) - N j) t = _
  rw [sum_tel, h]; omega
theorem difR_row (n : Nat) (hn : n ≤ 60) (N : Nat → Int) (h0 : N 0 = 0) (h1 : ∀ t, t < n → N t ≤ N (t + 1)) (h2 : N n ≤ 10000) : Row (difR n N) := by
  have lo : ∀ t, t ≤ n → 0 ≤ N t := fun t => by
    induction t with
    | zero => intro _; omega
    | succ t ih => intro h; have := ih (by omega); have := h1 t (by omega); omega
  have up : ∀ k t, t + k = n → N t ≤ N n := fun k => by
    induction k with
    | zero => intro t h; have : t = n := by omega
              subst this; exact Int.le_refl _
    | succ k ih => intro t h; have := ih (t + 1) (by omega); have := h1 t (by omega); omega
  refine ⟨hn, fun i hi => ?_⟩
  have hi : i < n := hi
  have a1 := h1 i hi
  have a2 := lo i (by omega)
  have a3 := up (n - (i + 1)) (i + 1) (by omega)
  exact ⟨by show 0 ≤ N (i + 1) - N i; omega, by show N (i + 1) - N i ≤ 10000; omega⟩
theorem addS_zero (c a : Curve) : addS c a 0 = 0 := rfl
theorem addS_mono1 (c a : Curve) (hc : c.Fine) (ha : Row a) (t : Nat) (ht : t < a.m) : addS c a t ≤ addS c a (t + 1) := by
  have h := thr_mono1 a (fun _ => c) ha 1 (fun _ _ => hc) t ht
  have e := fun t => thr_add a (fun _ => c) 0 t
  simp only [thrR_zero] at e
  rw [e t, e (t + 1)]
  exact h
theorem addS_le (c a : Curve) (t : Nat) : addS c a t ≤ a.S t := lzTo_le0 _ _ t t
def lessU (n : Nat) (D : Nat → Int) (k j : Nat) : Int := if j = k then D (k + 1) - D k - 1 else D (j + 1) - D j
theorem lessU_S (n : Nat) (D : Nat → Int) (h0 : D 0 = 0) (k : Nat) : ∀ t, sumTo (lessU n D k) t = if k < t then D t - 1 else D t
  | 0 => by rw [if_neg (by omega), h0]; rfl
  | t + 1 => by
    have ih := lessU_S n D h0 k t
    show sumTo (lessU n D k) t + lessU n D k t = _
    rw [ih]
    unfold lessU
    by_cases e : t = k
    · subst e; rw [if_neg (by omega), if_pos rfl, if_pos (by omega)]; omega
    · rw [if_neg e]
      by_cases h : k < t
      · rw [if_pos h, if_pos (by omega)]; omega
      · rw [if_neg h, if_neg (by omega)]; omega
end Go.Lg
end
section
set_option linter.unusedSimpArgs false
set_option linter.unusedVariables false
set_option linter.defProp false
set_option maxRecDepth 100000
set_option maxHeartbeats 16000000
namespace Go.Lg
open Go.Sx
def addU (C : Nat → Curve) (n p : Nat) (l u : Nat → Int) : Nat → Nat → Int
  | 0 => u
  | i + 1 => (difR n ((C i).NA ⟨n, addU C n p l u i⟩ p l)).u
structure AddOk (C : Nat → Curve) (n p : Nat) (l u : Nat → Int) (i : Nat) : Prop where
  row : Row ⟨n, addU C n p l u i⟩
  le : ∀ t, t ≤ n → sumTo (addU C n p l u i) t ≤ sumTo u t
  ge : ∀ t, t ≤ n → thr (sumTo u) C i t ≤ sumTo (addU C n p l u i) t
theorem addU_ok (C : Nat → Curve) (n p : Nat) (l u : Nat → Int) (hu : Row ⟨n, u⟩) (hs : sumTo u n ≤ 10000) (hl : ∀ j, j < p → 0 ≤ l j ∧ l j ≤ 255) : ∀ i, (∀ j, j < i → (C j).Fine) → AddOk C n p l u i
  | 0, _ => ⟨hu, fun t _ => Int.le_refl _, fun t _ => Int.le_refl _⟩
  | i + 1, h => by
    have ih := addU_ok C n p l u hu hs hl i (fun j hj => h j (by omega))
    have hc := h i (by omega)
    have f := NA_facts (C i) ⟨n, addU C n p l u i⟩ hc ih.row.rg p l hl
    have g := NA_up (C i) ⟨n, addU C n p l u i⟩ hc ih.row.rg p l hl
    have f : ∀ t, t ≤ n → lz (sumTo (addU C n p l u i)) (C i).L1 t ≤ (C i).NA ⟨n, addU C n p l u i⟩ p l t ∧ (C i).NA ⟨n, addU C n p l u i⟩ p l t ≤ sumTo (addU C n p l u i) t := f
    have g : ∀ t, t < n → (C i).NA ⟨n, addU C n p l u i⟩ p l t ≤ (C i).NA ⟨n, addU C n p l u i⟩ p l (t + 1) := g
    have e0 : (C i).NA ⟨n, addU C n p l u i⟩ p l 0 = 0 := rfl
    have eS := difR_S n _ e0
    have eS : ∀ t, sumTo (addU C n p l u (i + 1)) t = (C i).NA ⟨n, addU C n p l u i⟩ p l t := fun t => congrFun eS t
    have fn := f n (Nat.le_refl _)
    have ln := ih.le n (Nat.le_refl _)
    refine ⟨difR_row n hu.m60 _ e0 g (by omega), fun t ht => ?_, fun t ht => ?_⟩
    · rw [eS]; have := f t ht; have := ih.le t ht; omega
    · rw [eS]
      have h1 := (f t ht).1
      rw [lz_conv _ _ (L1_zero _)] at h1
      have h2 := conv_mono (thr (sumTo u) C i) (C i).L1 (sumTo (addU C n p l u i)) (C i).L1 t (fun j hj => ih.ge j (by omega)) (fun j _ => Int.le_refl _)
      show conv (thr (sumTo u) C i) (C i).L1 t ≤ _
      omega
theorem k49 (C : Nat → Curve) (n p : Nat) (l u : Nat → Int) (i : Nat) (h : AddOk C n p l u i) (hc : (C i).Fine) (hp : p ≤ 300) (hl : ∀ j, j < p → 0 ≤ l j ∧ l j ≤ 255) : ContractN Go.Proofs.Try.prog 49 [(C i).sv, (Curve.mk n (addU C n p l u i)).sv, u8s p l] (.rows 2 1 n (fun j _ => I (addU C n p l u (i + 1) j))) (.vec 0 n 1) :=
  c49 (C i) ⟨n, addU C n p l u i⟩ hc h.row.m60 h.row.rg p hp l hl
theorem beh_keeps (c : Curve) (n : Nat) (C : Nat → Curve) (h : Ask c n C) (m p : Nat) (b l : Nat → Int) (m20 : m ≤ 20) (hb : ∀ i, i < m → 0 ≤ b i ∧ b i ≤ 255) (ho : AddOk C m p l (K c.M b) n) (k t : Nat) (hk : k ≤ t) (ht : t ≤ m) :
    sumTo (addU C m p l (K c.M b) n) t - sumTo (addU C m p l (K c.M b) n) (t - k) ≤ behB c n C k := by
  have h1 := ho.le t ht
  have h2 := ho.ge (t - k) (by omega)
  rw [thr_Lc _ _ _ _ h.n1] at h2
  obtain ⟨x, q, e, e2⟩ := conv_at (sumTo (K c.M b)) (Lc n C) (t - k)
  rw [e2] at h2
  have h3 := KS_keeps c.M b (M_bound h.fine 0).1 t x (by omega)
  rw [← KS_sum, ← KS_sum] at h3
  have h4 : c.M (k + q) - Lc n C q ≤ behB c n C k := le_bestTo (fun u => c.M (k + u) - Lc n C u) 181 q (by omega)
  rw [show t - x = k + q by omega] at h3
  omega
theorem Lc_zero (n : Nat) (C : Nat → Curve) : Lc n C 0 = 0 := Ls_zero C (n - 1)
theorem behB_ge (c : Curve) (n : Nat) (C : Nat → Curve) (k : Nat) : c.M k ≤ behB c n C k := by
  have h : c.M (k + 0) - Lc n C 0 ≤ behB c n C k := le_bestTo (fun u => c.M (k + u) - Lc n C u) 181 0 (by omega)
  rw [Lc_zero, Nat.add_zero] at h
  omega
theorem behB_up (c : Curve) (hc : c.Fine) (n : Nat) (C : Nat → Curve) (k : Nat) : behB c n C k ≤ behB c n C (k + 1) :=
  bestTo_le _ _ (bestTo_nonneg _ _) 181 fun j hj => by
    have h1 : c.M (k + 1 + j) - Lc n C j ≤ behB c n C (k + 1) := le_bestTo (fun u => c.M (k + 1 + u) - Lc n C u) 181 j hj
    have h2 := M_mono hc (k + 1 + j) (k + j) (by omega)
    show c.M (k + j) - Lc n C j ≤ behB c n C (k + 1)
    omega
theorem behB_bound (c : Curve) (hc : c.Fine) (n : Nat) (C : Nat → Curve) (h : Ask c n C) (k : Nat) (hk : k ≤ 10) : 0 ≤ behB c n C k ∧ behB c n C k ≤ 100000 :=
  ⟨bestTo_nonneg _ _, bestTo_le _ _ (by omega) 181 fun j hj => by
    have h1 := M_bound hc (k + j)
    have h2 := (Lc_bound h j (by omega)).1
    omega⟩
end Go.Lg
end
section
set_option linter.unusedSimpArgs false
set_option linter.unusedVariables false
set_option linter.defProp false
set_option maxRecDepth 100000
set_option maxHeartbeats 16000000
namespace Go.Lg
open Go.Sx
theorem c47 (m : Nat) (u : Nat → Int) (n : Nat) (hm : m ≤ 1000) (hn : n ≤ 1000) : ContractN Go.Proofs.Try.prog 47 [ints m u, I n] (.rows 2 1 (m + n) (fun j _ => I (qz u m j))) (.vec 0 (m + n) 1) := by
  refine contractN_ofF (handAt 1) Go.Proofs.Try.func47 rfl (by kernel_rfl) follows (by kernel_rfl) _ _ _ (by rw [Go.Proofs.Try.ntmps47]; simp) (by simp [OldL, Old, ints, I]) ?_
  unfold I
  conv => arg 4; unfold ints
  (repeat' (first | with_reducible refine splitVC_d (fun _ => ?_) (fun _ => ?_) | ((with_reducible refine And.intro ?_ ?_); focus (first | trivial | (simp only [InK]; omega) | omega | (simp only [InK, ne_eq, and_true, true_and]; omega))) | simp -dsimp only [↓RP, RQ0, RQ1, RQ2, RQ3, implies_true, forall_const, Nat.reduceMul, reduceIte, reduceCtorEq, Nat.reduceAdd, Nat.reduceEqDiff, Nat.reduceLT, Nat.reduceLeDiff, by2, TY, Int.toNat_natCast, Go.Proofs.Try.results47]))
  refine rawSeq (seqH_op ?_)
  (simp -dsimp only [↓RP, RQ0, RQ1, RQ2, RQ3, implies_true, forall_const, Nat.reduceMul, reduceIte, reduceCtorEq, Nat.reduceAdd, Nat.reduceEqDiff, Nat.reduceLT, Nat.reduceLeDiff, by2, TY, Int.toNat_natCast])
  refine seqH_op ?_
  (simp -dsimp only [↓RP, RQ0, RQ1, RQ2, RQ3, implies_true, forall_const, Nat.reduceMul, reduceIte, reduceCtorEq, Nat.reduceAdd, Nat.reduceEqDiff, Nat.reduceLT, Nat.reduceLeDiff, by2, TY, Int.toNat_natCast])
  refine seqH_op ?_
  (simp -dsimp only [↓RP, RQ0, RQ1, RQ2, RQ3, implies_true, forall_const, Nat.reduceMul, reduceIte, reduceCtorEq, Nat.reduceAdd, Nat.reduceEqDiff, Nat.reduceLT, Nat.reduceLeDiff, by2, TY, Int.toNat_natCast, Nat.not_lt_zero, Nat.sub_zero, if_false])
  refine ⟨⟨.inr trivial, by omega⟩, ?_⟩
  refine seqH_op ?_
  (simp -dsimp only [↓RP, RQ0, RQ1, RQ2, RQ3, implies_true, forall_const, Nat.reduceMul, reduceIte, reduceCtorEq, Nat.reduceAdd, Nat.reduceEqDiff, Nat.reduceLT, Nat.reduceLeDiff, by2, TY, Int.toNat_natCast])
  refine seqH_hand rfl (zeros_vc (id := 3) (n := m) (n' := m) (m := n) (kq := .i64) (kn := .i64) (e := 2) ty22 ty2 Go.Proofs.Try.underlying3 rfl rfl rfl (Nat.le_refl _) (by omega) (by rw [by2]; omega) (by show 3 ≠ 5; omega) ?_)
  refine seqH_op ?_
  (simp -dsimp only [↓RP, RQ0, RQ1, RQ2, RQ3, implies_true, forall_const, Nat.reduceMul, reduceIte, reduceCtorEq, Nat.reduceAdd, Nat.reduceEqDiff, Nat.reduceLT, Nat.reduceLeDiff, by2, TY, Int.toNat_natCast])
  rw [seqH_nil]
  (simp -dsimp only [↓RP, RQ0, RQ1, RQ2, RQ3, implies_true, forall_const, Nat.reduceMul, reduceIte, reduceCtorEq, Nat.reduceAdd, Nat.reduceEqDiff, Nat.reduceLT, Nat.reduceLeDiff, by2, TY, Int.toNat_natCast, Go.Proofs.Try.results47])
  refine ⟨5, _, rfl, ?_, ?_⟩
  · (simp -dsimp only [↓RP, RQ0, RQ1, RQ2, RQ3, implies_true, forall_const, Nat.reduceMul, reduceIte, reduceCtorEq, Nat.reduceAdd, Nat.reduceEqDiff, Nat.reduceLT, Nat.reduceLeDiff])
    all_goals (try simp)
    intro i hi
    unfold qz
    by_cases h : i < m <;> simp [h]
  · (simp -dsimp only [↓RP, RQ0, RQ1, RQ2, RQ3, implies_true, forall_const, Nat.reduceMul, reduceIte, reduceCtorEq, Nat.reduceAdd, Nat.reduceEqDiff, Nat.reduceLT, Nat.reduceLeDiff])
end Go.Lg
end
section
set_option linter.unusedSimpArgs false
set_option linter.unusedVariables false
set_option linter.defProp false
set_option maxRecDepth 100000
set_option maxHeartbeats 16000000
namespace Go.Lg
open Go.Sx
structure Flow (c : Curve) (n : Nat) (C : Nat → Curve) (a d : Curve) (l : Nat) : Prop where
  ra : Row a
  rd : Row d
  m : a.m = d.m
  keeps : ∀ s t, s ≤ t → t ≤ a.m → a.S t - a.S s ≤ c.M (t - s)
  le : ∀ t, t ≤ a.m → d.S t ≤ a.S t
  ge : ∀ t, t ≤ a.m → conv a.S (Lc n C) t ≤ d.S t
  lm : l ≤ a.m
  same : a.S (a.m - l) = a.S a.m
theorem Flow.key {c : Curve} {n : Nat} {C : Nat → Curve} {a d : Curve} {l : Nat} (h : Flow c n C a d l) (hA : Ask c n C) (hl : lateB c n C = l) (t : Nat) (ht : t + l ≤ a.m) : a.S t ≤ d.S (t + l) := by
  have h60 := h.ra.m60
  have h1 := h.ge (t + l) ht
  obtain ⟨p, q, e, e2⟩ := conv_at a.S (Lc n C) (t + l)
  rw [e2] at h1
  by_cases hp : t ≤ p
  · have h2 := S_mono h.ra p t hp (by omega)
    have h3 : 0 ≤ Lc n C q := (Lc_bound hA q (by omega)).1
    omega
  · have h2 := h.keeps p t (by omega) (by omega)
    have h3 := lateB_says hA (t - p) q (by omega) (by omega)
    omega
theorem Flow.all {c : Curve} {n : Nat} {C : Nat → Curve} {a d : Curve} {l : Nat} (h : Flow c n C a d l) (hA : Ask c n C) (hl : lateB c n C = l) : a.S a.m = d.S a.m := by
  have h1 := h.key hA hl (a.m - l) (by have := h.lm; omega)
  have h2 := h.lm
  rw [show a.m - l + l = a.m by omega, h.same] at h1
  have h3 := h.le a.m (Nat.le_refl _)
  omega
theorem Flow.rows {c : Curve} {n : Nat} {C : Nat → Curve} {a d : Curve} {l : Nat} (h : Flow c n C a d l) : rowsV a d = 0 := by
  unfold rowsV
  rw [if_pos (row_rErr h.ra), if_pos (row_rErr h.rd), if_pos h.m, if_pos (show notMore a d from fun t ht => h.le t (by omega))]
theorem Flow.seen {c : Curve} {n : Nat} {C : Nat → Curve} {a d : Curve} {l : Nat} (h : Flow c n C a d l) (hA : Ask c n C) (hl : lateB c n C = l) : seenV a d = (waitTo a d (a.m + 1), lateTo a d (a.m + 1), 0) := by
  unfold seenV
  rw [if_pos h.rows, if_pos (h.all hA hl)]
theorem Flow.wait {c : Curve} {n : Nat} {C : Nat → Curve} {a d : Curve} {l : Nat} (h : Flow c n C a d l) (hA : Ask c n C) : ∀ k, k ≤ a.m + 1 → waitTo a d k ≤ waitB c n C
  | 0, _ => bestTo_nonneg _ _
  | k + 1, hk => by
    have h60 := h.ra.m60
    have ih := h.wait hA k (by omega)
    have h1 := h.ge k (by omega)
    obtain ⟨p, q, e, e2⟩ := conv_at a.S (Lc n C) k
    rw [e2] at h1
    have h2 := h.keeps p k (by omega) (by omega)
    rw [show k - p = q by omega] at h2
    have h3 := waitB_says (c := c) (n := n) (C := C) q (by omega)
    simp only [waitTo]
    omega
theorem Flow.late {c : Curve} {n : Nat} {C : Nat → Curve} {a d : Curve} {l : Nat} (h : Flow c n C a d l) (hA : Ask c n C) (hl : lateB c n C = l) : ∀ k, k ≤ a.m + 1 → lateTo a d k ≤ l
  | 0, _ => by show (0 : Int) ≤ l; omega
  | k + 1, hk => by
    have ih := h.late hA hl k (by omega)
    have he := h.all hA hl
    simp only [lateTo]
    by_cases hkl : k + l ≤ a.m
    · have h1 := atF_le h.ra he k (k + l) (by omega) (by omega) (h.key hA hl k hkl)
      omega
    · have h1 := (atF_spec h.ra he k (by omega)).2.1
      omega
theorem lateTo_ge (a d : Curve) : ∀ K k, k < K → (atF a d k : Int) - k ≤ lateTo a d K
  | 0, k, h => by omega
  | K + 1, k, h => by
    simp only [lateTo]
    by_cases e : k = K
    · subst e; omega
    · have := lateTo_ge a d K k (by omega); omega
def quR (c : Curve) (b l : Nat) : Curve := ⟨b + l, qz (fun j => c.M (j + 1) - c.M j) b⟩
theorem quR_S (c : Curve) (b l t : Nat) : (quR c b l).S t = c.M (min t b) := by
  show sumTo (qz (fun j => c.M (j + 1) - c.M j) b) t = _
  rw [sum_qz, sum_tel, M_zero]; omega
theorem quR_row (c : Curve) (hc : c.Fine) (b l : Nat) (h : b + l ≤ 60) : Row (quR c b l) := by
  have hr := ownR_row c hc b (by omega)
  refine ⟨h, fun i hi => ?_⟩
  show 0 ≤ qz (fun j => c.M (j + 1) - c.M j) b i ∧ qz (fun j => c.M (j + 1) - c.M j) b i ≤ 10000
  unfold qz
  split
  · rename_i hb; exact hr.rg i hb
  · omega
theorem quR_10000 (c : Curve) (hc : c.Fine) (b l : Nat) (h : b + l ≤ 60) : (quR c b l).S (quR c b l).m ≤ 10000 := by
  rw [quR_S]
  have := M_bound hc (min (quR c b l).m b)
  omega
theorem quR_flow (c : Curve) (n : Nat) (C : Nat → Curve) (hA : Ask c n C) (b l : Nat) (h : b + l ≤ 60) : Flow c n C (quR c b l) (thrR (quR c b l) C n) l := by
  have hr := quR_row c hA.fine b l h
  have hs := quR_10000 c hA.fine b l h
  have n1 := hA.n1
  refine ⟨hr, thrR_row _ C hr hs n (fun j hj => hA.fines j hj), rfl, fun s t h1 h2 => ?_, fun t ht => ?_, fun t ht => ?_, ?_, ?_⟩
  · rw [quR_S, quR_S]
    have h3 := M_sub hA.fine (min s b) (min t b - min s b)
    rw [show min s b + (min t b - min s b) = min t b by omega] at h3
    have h4 := M_mono hA.fine (t - s) (min t b - min s b) (by omega)
    omega
  · rw [thrR_S]; exact thr_le _ C n t
  · rw [thrR_S, thr_Lc _ _ _ _ n1]; exact Int.le_refl _
  · show l ≤ b + l; omega
  · rw [quR_S, quR_S]
    show c.M (min (b + l - l) b) = c.M (min (b + l) b)
    rw [show min (b + l - l) b = b by omega, show min (b + l) b = b by omega]
theorem quR_late (c : Curve) (n : Nat) (C : Nat → Curve) (hA : Ask c n C) (b l : Nat) (h : b + l ≤ 60) (hl : lateB c n C = l) (hb : l = 0 ∨ Lc n C (b + l - 1) < c.M b) : ∃ x, seenV (quR c b l) (thrR (quR c b l) C n) = (x, (l : Int), 0) := by
  have hf := quR_flow c n C hA b l h
  have h1 := hf.late hA hl ((quR c b l).m + 1) (Nat.le_refl _)
  have he := hf.all hA hl
  have n1 := hA.n1
  refine ⟨waitTo (quR c b l) (thrR (quR c b l) C n) ((quR c b l).m + 1), ?_⟩
  rw [hf.seen hA hl]
  have h2 : (l : Int) ≤ lateTo (quR c b l) (thrR (quR c b l) C n) ((quR c b l).m + 1) := by
    have hm : (quR c b l).m = b + l := rfl
    have h3 := lateTo_ge (quR c b l) (thrR (quR c b l) C n) ((quR c b l).m + 1) b (by omega)
    have h4 := atF_spec hf.ra he b (by omega)
    rcases hb with h0 | hb
    · omega
    · by_cases hx : atF (quR c b l) (thrR (quR c b l) C n) b < b + l
      · exfalso
        have h5 := S_mono hf.rd (b + l - 1) (atF (quR c b l) (thrR (quR c b l) C n) b) (by omega) (by show b + l - 1 ≤ b + l; omega)
        have h6 : (thrR (quR c b l) C n).S (b + l - 1) ≤ Lc n C (b + l - 1) := by
          rw [thrR_S, thr_Lc _ _ _ _ n1]
          have := conv_le' (quR c b l).S (Lc n C) (b + l - 1) 0 (b + l - 1) (by omega)
          have e0 : (quR c b l).S 0 = 0 := rfl
          omega
        have h7 := h4.2.2.1
        rw [quR_S, show min b b = b by omega] at h7
        omega
      · omega
  rw [show lateTo (quR c b l) (thrR (quR c b l) C n) ((quR c b l).m + 1) = (l : Int) by omega]
theorem own_wait (c : Curve) (n : Nat) (C : Nat → Curve) (hA : Ask c n C) (a : Nat) (h : a ≤ 60) (ha : c.M a - Lc n C a = waitB c n C) : c.M a - thr c.M C n a = waitB c n C := by
  rw [thr_Lc _ _ _ _ hA.n1]
  apply Int.le_antisymm
  · obtain ⟨p, q, e, e2⟩ := conv_at c.M (Lc n C) a
    rw [e2]
    have h1 := M_sub hA.fine p q
    rw [e] at h1
    have h2 := waitB_says (c := c) (n := n) (C := C) q (by omega)
    omega
  · have h1 := conv_le' c.M (Lc n C) a 0 a (by omega)
    rw [M_zero] at h1
    omega
end Go.Lg
end
section
set_option linter.unusedSimpArgs false
set_option linter.unusedVariables false
set_option linter.defProp false
set_option maxRecDepth 100000
set_option maxHeartbeats 16000000
namespace Go.Lg
open Go.Sx
theorem k53o (c : Curve) (hc : c.Fine) (a : Nat) (h : a ≤ 60) : Contract Go.Proofs.Try.prog 53 [ints a (fun j => c.M (j + 1) - c.M j)] (I (c.M a)) := by
  have := c53 a (fun j => c.M (j + 1) - c.M j) (by omega) (fun i hi => by
    have h1 := M_mono1 hc i
    have h2 := M_bound hc (i + 1)
    have h3 := M_bound hc i
    omega)
  rw [sum_tel, M_zero, Int.sub_zero] at this
  exact this
theorem k53t (c : Curve) (n : Nat) (C : Nat → Curve) (hA : Ask c n C) (a : Nat) (h : a ≤ 60) (hr : Row (thrR (ownR c a) C n)) : Contract Go.Proofs.Try.prog 53 [ints a (fun j => thr c.M C n (j + 1) - thr c.M C n j)] (I (thr c.M C n a)) := by
  have e0 := ownR_S c a
  have hz := thr_zero (ownR c a) C n
  rw [e0] at hz
  have := c53 a (fun j => thr c.M C n (j + 1) - thr c.M C n j) (by omega) (fun i hi => by
    have h1 := hr.rg i hi
    have h2 : (thrR (ownR c a) C n).u i = thr c.M C n (i + 1) - thr c.M C n i := by
      show thr (ownR c a).S C n (i + 1) - thr (ownR c a).S C n i = _
      rw [e0]
    omega)
  rw [sum_tel, hz, Int.sub_zero] at this
  exact this
def rA (c : Curve) (n : Nat) (C : Nat → Curve) (l : Nat) (a : Int) : Prop := a = -1 ∨ ∃ j : Nat, a = j ∧ j ≤ 60 - l ∧ c.M j - Lc n C j = waitB c n C
def rB (c : Curve) (n : Nat) (C : Nat → Curve) (l : Nat) (b : Int) : Prop := b = -1 ∨ ∃ j : Nat, b = j ∧ j + l ≤ 60 ∧ (l = 0 ∨ Lc n C (j + l - 1) < c.M j)
theorem rA_bd {c : Curve} {n : Nat} {C : Nat → Curve} {l : Nat} {a : Int} (h : rA c n C l a) : -1 ≤ a ∧ a ≤ 60 := by
  rcases h with e | ⟨j, e, h2, _⟩ <;> omega
theorem rB_bd {c : Curve} {n : Nat} {C : Nat → Curve} {l : Nat} {b : Int} (h : rB c n C l b) : -1 ≤ b ∧ b ≤ 60 := by
  rcases h with e | ⟨j, e, h2, _⟩ <;> omega
theorem rA_new {c : Curve} {n : Nat} {C : Nat → Curve} {l k : Nat} (h1 : k ≤ 60 - l) (h2 : c.M k - Lc n C k = waitB c n C) : rA c n C l k := .inr ⟨k, rfl, h1, h2⟩
theorem rB_new {c : Curve} {n : Nat} {C : Nat → Curve} {l k : Nat} (h1 : k + l ≤ 60) (h2 : l = 0 ∨ Lc n C (k + l - 1) < c.M k) : rB c n C l k := .inr ⟨k, rfl, h1, h2⟩
theorem c50 (c : Curve) (n : Nat) (C : Nat → Curve) (hA : Ask c n C) (l : Nat) (hl : lateB c n C = l) : Contract Go.Proofs.Try.prog 50 [c.sv, chn n C, I (waitB c n C), I l] (B true) := by
  refine contract_of Go.Proofs.Try.func50 rfl (by kernel_rfl) follows (by kernel_rfl) _ _ (by rw [Go.Proofs.Try.ntmps50]; simp) (by simp only [OldL, c.old, chn_old, and_self, and_true, true_and]; simp [Old, I]) ?_
  unfold I B
  have hc := hA.fine
  have n1 := hA.n1
  have n3 := hA.n3
  have hm6 := hc.m6
  have l20 := lateB_20 hA
  rw [hl] at l20
  have hM := M_bound hc
  have hL := fun k hk => Lc_bound hA k hk
  have hw0 : 0 ≤ waitB c n C ∧ waitB c n C ≤ 100000 := ⟨bestTo_nonneg _ _, bestTo_le _ _ (by omega) 181 fun j hj => by
    have h1 := hM j
    have h2 := (hL j (by omega)).1
    show c.M j - Lc n C j ≤ 100000
    omega⟩
  have e0 : (60 : Int) - (l : Int) = ((60 - l : Nat) : Int) := by omega
  conv => arg 4; unfold chn Curve.sv ints
  (repeat' (first | with_reducible refine splitVC_d (fun _ => ?_) (fun _ => ?_) | ((with_reducible refine And.intro ?_ ?_); focus (first | exact True.intro | (simp only [InK]; omega) | omega | (simp only [InK, ne_eq, and_true, true_and]; omega) | trivial)) | (simp -dsimp only [↓RP, RQ0, RQ1, RQ2, RQ3, implies_true, forall_const, Nat.reduceMul, reduceIte, reduceCtorEq, Nat.reduceAdd, Nat.reduceEqDiff, Nat.reduceLT, Nat.reduceLeDiff, tup3, B, I, by2, ty5, ty51, decide_true, decide_false, Bool.not_true, Bool.not_false, eq_self, and_self, Nat.zero_add, Int.toNat_natCast, TY, Go.Proofs.Try.results50])))
  refine callN (c54 c hc 60 (by omega)) (by (simp -dsimp only [↓RP, RQ0, RQ1, RQ2, RQ3, implies_true, forall_const, Nat.reduceMul, reduceIte, reduceCtorEq, Nat.reduceAdd, Nat.reduceEqDiff, Nat.reduceLT, Nat.reduceLeDiff, Curve.sv, ints, I, B]); all_goals (try simp)) (by (simp -dsimp only [↓RP, RQ0, RQ1, RQ2, RQ3, implies_true, forall_const, Nat.reduceMul, reduceIte, reduceCtorEq, Nat.reduceAdd, Nat.reduceEqDiff, Nat.reduceLT, Nat.reduceLeDiff, I]); all_goals simp) (by (simp -dsimp only [↓RP, RQ0, RQ1, RQ2, RQ3, implies_true, forall_const, Nat.reduceMul, reduceIte, reduceCtorEq, Nat.reduceAdd, Nat.reduceEqDiff, Nat.reduceLT, Nat.reduceLeDiff, I]); all_goals simp) ?_
  (repeat' (first | with_reducible refine splitVC_d (fun _ => ?_) (fun _ => ?_) | ((with_reducible refine And.intro ?_ ?_); focus (first | exact True.intro | (simp only [InK]; omega) | omega | (simp only [InK, ne_eq, and_true, true_and]; omega) | trivial)) | (simp -dsimp only [↓RP, RQ0, RQ1, RQ2, RQ3, implies_true, forall_const, Nat.reduceMul, reduceIte, reduceCtorEq, Nat.reduceAdd, Nat.reduceEqDiff, Nat.reduceLT, Nat.reduceLeDiff, tup3, B, I, by2, ty5, ty51, decide_true, decide_false, Bool.not_true, Bool.not_false, eq_self, and_self, Nat.zero_add, Int.toNat_natCast, TY, Go.Proofs.Try.results50])))
  refine callN (c58 n C n1 n3 hA.fines 60 (by omega)) (by (simp -dsimp only [↓RP, RQ0, RQ1, RQ2, RQ3, implies_true, forall_const, Nat.reduceMul, reduceIte, reduceCtorEq, Nat.reduceAdd, Nat.reduceEqDiff, Nat.reduceLT, Nat.reduceLeDiff, chn, Curve.sv, ints, I, B]); all_goals (try simp); all_goals exact fun _ _ => rfl) (by (simp -dsimp only [↓RP, RQ0, RQ1, RQ2, RQ3, implies_true, forall_const, Nat.reduceMul, reduceIte, reduceCtorEq, Nat.reduceAdd, Nat.reduceEqDiff, Nat.reduceLT, Nat.reduceLeDiff, I]); all_goals simp) (by (simp -dsimp only [↓RP, RQ0, RQ1, RQ2, RQ3, implies_true, forall_const, Nat.reduceMul, reduceIte, reduceCtorEq, Nat.reduceAdd, Nat.reduceEqDiff, Nat.reduceLT, Nat.reduceLeDiff, I]); all_goals simp) ?_
  (repeat' (first | with_reducible refine splitVC_d (fun _ => ?_) (fun _ => ?_) | ((with_reducible refine And.intro ?_ ?_); focus (first | exact True.intro | (simp only [InK]; omega) | omega | (simp only [InK, ne_eq, and_true, true_and]; omega) | trivial)) | (simp -dsimp only [↓RP, RQ0, RQ1, RQ2, RQ3, implies_true, forall_const, Nat.reduceMul, reduceIte, reduceCtorEq, Nat.reduceAdd, Nat.reduceEqDiff, Nat.reduceLT, Nat.reduceLeDiff, tup3, B, I, by2, ty5, ty51, decide_true, decide_false, Bool.not_true, Bool.not_false, eq_self, and_self, Nat.zero_add, Int.toNat_natCast, TY, Go.Proofs.Try.results50])))
  refine loop_vc (fun (q : Nat × Int × Int) => q.1 ≤ 61 - l ∧ rA c n C l q.2.1 ∧ rB c n C l q.2.2) (fun q => ⟨[(0, .arr false false c.m 1 (fun i _ => .val (.int .i64 (c.u i)))), (1, .arr false false n 1 (fun i _ => .arr false false (C i).m 1 (fun j _ => .val (.int .i64 ((C i).u j))))), (2, .val (.int .i64 (waitB c n C))), (3, .val (.int .i64 l)), (9, .vec 60 61 1), (10, .vec 61 61 1), (11, .val (.int .i64 q.2.1)), (12, .val (.int .i64 q.2.2)), (13, .val (.int .i64 q.1))], [(60, .rows 2 1 61 (fun j _ => .val (.int .i64 (c.M j)))), (61, .rows 2 1 61 (fun j _ => .val (.int .i64 (Lc n C j))))], 62⟩) (fun q => 61 - l - q.1) (0, -1, -1) ⟨Nat.zero_le _, .inl rfl, .inl rfl⟩ (weak [(60, some 2), (61, some 4)] [] ?_ ?_ ?_) fun q hq => ?_
  · (simp -dsimp only [↓RP, RQ0, RQ1, RQ2, RQ3, implies_true, forall_const, Nat.reduceMul, reduceIte, reduceCtorEq, Nat.reduceAdd, Nat.reduceEqDiff, Nat.reduceLT, Nat.reduceLeDiff]); all_goals simp
  · (simp -dsimp only [↓RP, RQ0, RQ1, RQ2, RQ3, implies_true, forall_const, Nat.reduceMul, reduceIte, reduceCtorEq, Nat.reduceAdd, Nat.reduceEqDiff, Nat.reduceLT, Nat.reduceLeDiff]); all_goals (try simp)
    all_goals (try exact fun _ _ => rfl)
  · (simp -dsimp only [↓RP, RQ0, RQ1, RQ2, RQ3, implies_true, forall_const, Nat.reduceMul, reduceIte, reduceCtorEq, Nat.reduceAdd, Nat.reduceEqDiff, Nat.reduceLT, Nat.reduceLeDiff]); all_goals simp
  obtain ⟨k, a, b⟩ := q
  obtain ⟨hk, ia, ib⟩ := hq
  have hk : k ≤ 61 - l := hk
  have ia : rA c n C l a := ia
  have ib : rB c n C l b := ib
  have ra := rA_bd ia
  have rb := rB_bd ib
  by_cases hlt : k ≤ 60 - l
  · have m1 := hM k
    have m2 := hL k (by omega)
    rcases Nat.eq_zero_or_pos l with h0 | h0
    · (repeat' (first | with_reducible refine splitVC_d (fun _ => ?_) (fun _ => ?_) | ((with_reducible refine And.intro ?_ ?_); focus (first | exact True.intro | (simp only [InK]; omega) | omega | (simp only [InK, ne_eq, and_true, true_and]; omega) | trivial)) | (simp -dsimp only [↓RP, RQ0, RQ1, RQ2, RQ3, implies_true, forall_const, Nat.reduceMul, reduceIte, reduceCtorEq, Nat.reduceAdd, Nat.reduceEqDiff, Nat.reduceLT, Nat.reduceLeDiff, e0, tup3, B, I, by2, ty5, ty51, decide_true, decide_false, Bool.not_true, Bool.not_false, eq_self, and_self, Nat.zero_add, Int.toNat_natCast, TY, Go.Proofs.Try.results50])))
      all_goals first
        | (exfalso; omega)
        | (refine ⟨(k + 1, a, b), ⟨?g1, ?g2, ?g3⟩, ?g4, weak [] [] ?g5 ?g6 ?g7⟩
           (case g5 => ((simp -dsimp only [↓RP, RQ0, RQ1, RQ2, RQ3, implies_true, forall_const, Nat.reduceMul, reduceIte, reduceCtorEq, Nat.reduceAdd, Nat.reduceEqDiff, Nat.reduceLT, Nat.reduceLeDiff]); all_goals simp; done))
           (case g6 => ((simp -dsimp only [↓RP, RQ0, RQ1, RQ2, RQ3, implies_true, forall_const, Nat.reduceMul, reduceIte, reduceCtorEq, Nat.reduceAdd, Nat.reduceEqDiff, Nat.reduceLT, Nat.reduceLeDiff]); all_goals simp; done))
           (case g7 => ((simp -dsimp only [↓RP, RQ0, RQ1, RQ2, RQ3, implies_true, forall_const, Nat.reduceMul, reduceIte, reduceCtorEq, Nat.reduceAdd, Nat.reduceEqDiff, Nat.reduceLT, Nat.reduceLeDiff]); all_goals simp; done))
           (case g1 => (show k + 1 ≤ 61 - l; omega))
           (case g2 => exact ia)
           (case g3 => exact ib)
           (case g4 => (show 61 - l - (k + 1) < 61 - l - k; omega)))
        | (refine ⟨(k + 1, (k : Int), b), ⟨?g1, ?g2, ?g3⟩, ?g4, weak [] [] ?g5 ?g6 ?g7⟩
           (case g5 => ((simp -dsimp only [↓RP, RQ0, RQ1, RQ2, RQ3, implies_true, forall_const, Nat.reduceMul, reduceIte, reduceCtorEq, Nat.reduceAdd, Nat.reduceEqDiff, Nat.reduceLT, Nat.reduceLeDiff]); all_goals simp; done))
           (case g6 => ((simp -dsimp only [↓RP, RQ0, RQ1, RQ2, RQ3, implies_true, forall_const, Nat.reduceMul, reduceIte, reduceCtorEq, Nat.reduceAdd, Nat.reduceEqDiff, Nat.reduceLT, Nat.reduceLeDiff]); all_goals simp; done))
           (case g7 => ((simp -dsimp only [↓RP, RQ0, RQ1, RQ2, RQ3, implies_true, forall_const, Nat.reduceMul, reduceIte, reduceCtorEq, Nat.reduceAdd, Nat.reduceEqDiff, Nat.reduceLT, Nat.reduceLeDiff]); all_goals simp; done))
           (case g1 => (show k + 1 ≤ 61 - l; omega))
           (case g2 => (refine rA_new ?_ ?_ <;> omega))
           (case g3 => exact ib)
           (case g4 => (show 61 - l - (k + 1) < 61 - l - k; omega)))
        | (refine ⟨(k + 1, a, (k : Int)), ⟨?g1, ?g2, ?g3⟩, ?g4, weak [] [] ?g5 ?g6 ?g7⟩
           (case g5 => ((simp -dsimp only [↓RP, RQ0, RQ1, RQ2, RQ3, implies_true, forall_const, Nat.reduceMul, reduceIte, reduceCtorEq, Nat.reduceAdd, Nat.reduceEqDiff, Nat.reduceLT, Nat.reduceLeDiff]); all_goals simp; done))
           (case g6 => ((simp -dsimp only [↓RP, RQ0, RQ1, RQ2, RQ3, implies_true, forall_const, Nat.reduceMul, reduceIte, reduceCtorEq, Nat.reduceAdd, Nat.reduceEqDiff, Nat.reduceLT, Nat.reduceLeDiff]); all_goals simp; done))
           (case g7 => ((simp -dsimp only [↓RP, RQ0, RQ1, RQ2, RQ3, implies_true, forall_const, Nat.reduceMul, reduceIte, reduceCtorEq, Nat.reduceAdd, Nat.reduceEqDiff, Nat.reduceLT, Nat.reduceLeDiff]); all_goals simp; done))
           (case g1 => (show k + 1 ≤ 61 - l; omega))
           (case g2 => exact ia)
           (case g3 => (refine rB_new ?_ ?_ <;> omega))
           (case g4 => (show 61 - l - (k + 1) < 61 - l - k; omega)))
        | (refine ⟨(k + 1, (k : Int), (k : Int)), ⟨?g1, ?g2, ?g3⟩, ?g4, weak [] [] ?g5 ?g6 ?g7⟩
           (case g5 => ((simp -dsimp only [↓RP, RQ0, RQ1, RQ2, RQ3, implies_true, forall_const, Nat.reduceMul, reduceIte, reduceCtorEq, Nat.reduceAdd, Nat.reduceEqDiff, Nat.reduceLT, Nat.reduceLeDiff]); all_goals simp; done))
           (case g6 => ((simp -dsimp only [↓RP, RQ0, RQ1, RQ2, RQ3, implies_true, forall_const, Nat.reduceMul, reduceIte, reduceCtorEq, Nat.reduceAdd, Nat.reduceEqDiff, Nat.reduceLT, Nat.reduceLeDiff]); all_goals simp; done))
           (case g7 => ((simp -dsimp only [↓RP, RQ0, RQ1, RQ2, RQ3, implies_true, forall_const, Nat.reduceMul, reduceIte, reduceCtorEq, Nat.reduceAdd, Nat.reduceEqDiff, Nat.reduceLT, Nat.reduceLeDiff]); all_goals simp; done))
           (case g1 => (show k + 1 ≤ 61 - l; omega))
           (case g2 => (refine rA_new ?_ ?_ <;> omega))
           (case g3 => (refine rB_new ?_ ?_ <;> omega))
           (case g4 => (show 61 - l - (k + 1) < 61 - l - k; omega)))
    · have m3 := hL (k + l - 1) (by omega)
      have e1 : (k : Int) + (l : Int) - 1 = ((k + l - 1 : Nat) : Int) := by omega
      (repeat' (first | with_reducible refine splitVC_d (fun _ => ?_) (fun _ => ?_) | ((with_reducible refine And.intro ?_ ?_); focus (first | exact True.intro | (simp only [InK]; omega) | omega | (simp only [InK, ne_eq, and_true, true_and]; omega) | trivial)) | (simp -dsimp only [↓RP, RQ0, RQ1, RQ2, RQ3, implies_true, forall_const, Nat.reduceMul, reduceIte, reduceCtorEq, Nat.reduceAdd, Nat.reduceEqDiff, Nat.reduceLT, Nat.reduceLeDiff, e0, e1, tup3, B, I, by2, ty5, ty51, decide_true, decide_false, Bool.not_true, Bool.not_false, eq_self, and_self, Nat.zero_add, Int.toNat_natCast, TY, Go.Proofs.Try.results50])))
      all_goals first
        | (exfalso; omega)
        | (refine ⟨(k + 1, a, b), ⟨?g1, ?g2, ?g3⟩, ?g4, weak [] [] ?g5 ?g6 ?g7⟩
           (case g5 => ((simp -dsimp only [↓RP, RQ0, RQ1, RQ2, RQ3, implies_true, forall_const, Nat.reduceMul, reduceIte, reduceCtorEq, Nat.reduceAdd, Nat.reduceEqDiff, Nat.reduceLT, Nat.reduceLeDiff]); all_goals simp; done))
           (case g6 => ((simp -dsimp only [↓RP, RQ0, RQ1, RQ2, RQ3, implies_true, forall_const, Nat.reduceMul, reduceIte, reduceCtorEq, Nat.reduceAdd, Nat.reduceEqDiff, Nat.reduceLT, Nat.reduceLeDiff]); all_goals simp; done))
           (case g7 => ((simp -dsimp only [↓RP, RQ0, RQ1, RQ2, RQ3, implies_true, forall_const, Nat.reduceMul, reduceIte, reduceCtorEq, Nat.reduceAdd, Nat.reduceEqDiff, Nat.reduceLT, Nat.reduceLeDiff]); all_goals simp; done))
           (case g1 => (show k + 1 ≤ 61 - l; omega))
           (case g2 => exact ia)
           (case g3 => exact ib)
           (case g4 => (show 61 - l - (k + 1) < 61 - l - k; omega)))
        | (refine ⟨(k + 1, (k : Int), b), ⟨?g1, ?g2, ?g3⟩, ?g4, weak [] [] ?g5 ?g6 ?g7⟩
           (case g5 => ((simp -dsimp only [↓RP, RQ0, RQ1, RQ2, RQ3, implies_true, forall_const, Nat.reduceMul, reduceIte, reduceCtorEq, Nat.reduceAdd, Nat.reduceEqDiff, Nat.reduceLT, Nat.reduceLeDiff]); all_goals simp; done))
           (case g6 => ((simp -dsimp only [↓RP, RQ0, RQ1, RQ2, RQ3, implies_true, forall_const, Nat.reduceMul, reduceIte, reduceCtorEq, Nat.reduceAdd, Nat.reduceEqDiff, Nat.reduceLT, Nat.reduceLeDiff]); all_goals simp; done))
           (case g7 => ((simp -dsimp only [↓RP, RQ0, RQ1, RQ2, RQ3, implies_true, forall_const, Nat.reduceMul, reduceIte, reduceCtorEq, Nat.reduceAdd, Nat.reduceEqDiff, Nat.reduceLT, Nat.reduceLeDiff]); all_goals simp; done))
           (case g1 => (show k + 1 ≤ 61 - l; omega))
           (case g2 => (refine rA_new ?_ ?_ <;> omega))
           (case g3 => exact ib)
           (case g4 => (show 61 - l - (k + 1) < 61 - l - k; omega)))
        | (refine ⟨(k + 1, a, (k : Int)), ⟨?g1, ?g2, ?g3⟩, ?g4, weak [] [] ?g5 ?g6 ?g7⟩
           (case g5 => ((simp -dsimp only [↓RP, RQ0, RQ1, RQ2, RQ3, implies_true, forall_const, Nat.reduceMul, reduceIte, reduceCtorEq, Nat.reduceAdd, Nat.reduceEqDiff, Nat.reduceLT, Nat.reduceLeDiff]); all_goals simp; done))
           (case g6 => ((simp -dsimp only [↓RP, RQ0, RQ1, RQ2, RQ3, implies_true, forall_const, Nat.reduceMul, reduceIte, reduceCtorEq, Nat.reduceAdd, Nat.reduceEqDiff, Nat.reduceLT, Nat.reduceLeDiff]); all_goals simp; done))
           (case g7 => ((simp -dsimp only [↓RP, RQ0, RQ1, RQ2, RQ3, implies_true, forall_const, Nat.reduceMul, reduceIte, reduceCtorEq, Nat.reduceAdd, Nat.reduceEqDiff, Nat.reduceLT, Nat.reduceLeDiff]); all_goals simp; done))
           (case g1 => (show k + 1 ≤ 61 - l; omega))
           (case g2 => exact ia)
           (case g3 => (refine rB_new ?_ ?_ <;> omega))
           (case g4 => (show 61 - l - (k + 1) < 61 - l - k; omega)))
        | (refine ⟨(k + 1, (k : Int), (k : Int)), ⟨?g1, ?g2, ?g3⟩, ?g4, weak [] [] ?g5 ?g6 ?g7⟩
           (case g5 => ((simp -dsimp only [↓RP, RQ0, RQ1, RQ2, RQ3, implies_true, forall_const, Nat.reduceMul, reduceIte, reduceCtorEq, Nat.reduceAdd, Nat.reduceEqDiff, Nat.reduceLT, Nat.reduceLeDiff]); all_goals simp; done))
           (case g6 => ((simp -dsimp only [↓RP, RQ0, RQ1, RQ2, RQ3, implies_true, forall_const, Nat.reduceMul, reduceIte, reduceCtorEq, Nat.reduceAdd, Nat.reduceEqDiff, Nat.reduceLT, Nat.reduceLeDiff]); all_goals simp; done))
           (case g7 => ((simp -dsimp only [↓RP, RQ0, RQ1, RQ2, RQ3, implies_true, forall_const, Nat.reduceMul, reduceIte, reduceCtorEq, Nat.reduceAdd, Nat.reduceEqDiff, Nat.reduceLT, Nat.reduceLeDiff]); all_goals simp; done))
           (case g1 => (show k + 1 ≤ 61 - l; omega))
           (case g2 => (refine rA_new ?_ ?_ <;> omega))
           (case g3 => (refine rB_new ?_ ?_ <;> omega))
           (case g4 => (show 61 - l - (k + 1) < 61 - l - k; omega)))
  · rcases ia with rfl | ⟨ja, rfl, ha1, ha2⟩
    · (repeat' (first | with_reducible refine splitVC_d (fun _ => ?_) (fun _ => ?_) | ((with_reducible refine And.intro ?_ ?_); focus (first | exact True.intro | (simp only [InK]; omega) | omega | (simp only [InK, ne_eq, and_true, true_and]; omega) | trivial)) | (simp -dsimp only [↓RP, RQ0, RQ1, RQ2, RQ3, implies_true, forall_const, Nat.reduceMul, reduceIte, reduceCtorEq, Nat.reduceAdd, Nat.reduceEqDiff, Nat.reduceLT, Nat.reduceLeDiff, e0, tup3, B, I, by2, ty5, ty51, decide_true, decide_false, Bool.not_true, Bool.not_false, eq_self, and_self, Nat.zero_add, Int.toNat_natCast, TY, Go.Proofs.Try.results50])))
      all_goals first | (exfalso; omega) | skip
      rcases ib with rfl | ⟨jb, rfl, hb1, hb2⟩
      · (repeat' (first | with_reducible refine splitVC_d (fun _ => ?_) (fun _ => ?_) | ((with_reducible refine And.intro ?_ ?_); focus (first | exact True.intro | (simp only [InK]; omega) | omega | (simp only [InK, ne_eq, and_true, true_and]; omega) | trivial)) | (simp -dsimp only [↓RP, RQ0, RQ1, RQ2, RQ3, implies_true, forall_const, Nat.reduceMul, reduceIte, reduceCtorEq, Nat.reduceAdd, Nat.reduceEqDiff, Nat.reduceLT, Nat.reduceLeDiff, tup3, B, I, by2, ty5, ty51, decide_true, decide_false, Bool.not_true, Bool.not_false, eq_self, and_self, Nat.zero_add, Int.toNat_natCast, TY, Go.Proofs.Try.results50])))
        all_goals first | (exfalso; omega) | rfl | skip
      · have hq := quR_row c hc jb l hb1
        have hq2 := quR_10000 c hc jb l hb1
        have hqf := quR_flow c n C hA jb l hb1
        obtain ⟨xw, hs⟩ := quR_late c n C hA jb l hb1 hl hb2
        have k36 := c36 (quR c jb l) (thrR (quR c jb l) C n) (by show jb + l ≤ _; omega) (by show jb + l ≤ _; omega)
        rw [hs] at k36
        have k56 := c56 n C (quR c jb l) n1 (by omega) hA.fines hq hq2
        have k47 := c47 jb (fun j => c.M (j + 1) - c.M j) l (by omega) (by omega)
        (repeat' (first | with_reducible refine splitVC_d (fun _ => ?_) (fun _ => ?_) | ((with_reducible refine And.intro ?_ ?_); focus (first | exact True.intro | (simp only [InK]; omega) | omega | (simp only [InK, ne_eq, and_true, true_and]; omega) | trivial)) | (simp -dsimp only [↓RP, RQ0, RQ1, RQ2, RQ3, implies_true, forall_const, Nat.reduceMul, reduceIte, reduceCtorEq, Nat.reduceAdd, Nat.reduceEqDiff, Nat.reduceLT, Nat.reduceLeDiff, tup3, B, I, by2, ty5, ty51, decide_true, decide_false, Bool.not_true, Bool.not_false, eq_self, and_self, Nat.zero_add, Int.toNat_natCast, TY, Go.Proofs.Try.results50])))
        all_goals first | (exfalso; omega) | skip
        refine callN (c31 c hc jb (by omega)) (by (simp -dsimp only [↓RP, RQ0, RQ1, RQ2, RQ3, implies_true, forall_const, Nat.reduceMul, reduceIte, reduceCtorEq, Nat.reduceAdd, Nat.reduceEqDiff, Nat.reduceLT, Nat.reduceLeDiff, Curve.sv, ints, I, B]); all_goals (try simp)) (by (simp -dsimp only [↓RP, RQ0, RQ1, RQ2, RQ3, implies_true, forall_const, Nat.reduceMul, reduceIte, reduceCtorEq, Nat.reduceAdd, Nat.reduceEqDiff, Nat.reduceLT, Nat.reduceLeDiff, I]); all_goals simp) (by (simp -dsimp only [↓RP, RQ0, RQ1, RQ2, RQ3, implies_true, forall_const, Nat.reduceMul, reduceIte, reduceCtorEq, Nat.reduceAdd, Nat.reduceEqDiff, Nat.reduceLT, Nat.reduceLeDiff, I]); all_goals simp) ?_
        (repeat' (first | with_reducible refine splitVC_d (fun _ => ?_) (fun _ => ?_) | ((with_reducible refine And.intro ?_ ?_); focus (first | exact True.intro | (simp only [InK]; omega) | omega | (simp only [InK, ne_eq, and_true, true_and]; omega) | trivial)) | (simp -dsimp only [↓RP, RQ0, RQ1, RQ2, RQ3, implies_true, forall_const, Nat.reduceMul, reduceIte, reduceCtorEq, Nat.reduceAdd, Nat.reduceEqDiff, Nat.reduceLT, Nat.reduceLeDiff, tup3, B, I, by2, ty5, ty51, decide_true, decide_false, Bool.not_true, Bool.not_false, eq_self, and_self, Nat.zero_add, Int.toNat_natCast, TY, Go.Proofs.Try.results50])))
        all_goals first | (exfalso; omega) | skip
        refine callN k47 (by (simp -dsimp only [↓RP, RQ0, RQ1, RQ2, RQ3, implies_true, forall_const, Nat.reduceMul, reduceIte, reduceCtorEq, Nat.reduceAdd, Nat.reduceEqDiff, Nat.reduceLT, Nat.reduceLeDiff, Curve.sv, ints, I, B]); all_goals (try simp)) (by (simp -dsimp only [↓RP, RQ0, RQ1, RQ2, RQ3, implies_true, forall_const, Nat.reduceMul, reduceIte, reduceCtorEq, Nat.reduceAdd, Nat.reduceEqDiff, Nat.reduceLT, Nat.reduceLeDiff, I]); all_goals simp) (by (simp -dsimp only [↓RP, RQ0, RQ1, RQ2, RQ3, implies_true, forall_const, Nat.reduceMul, reduceIte, reduceCtorEq, Nat.reduceAdd, Nat.reduceEqDiff, Nat.reduceLT, Nat.reduceLeDiff, I]); all_goals simp) ?_
        (repeat' (first | with_reducible refine splitVC_d (fun _ => ?_) (fun _ => ?_) | ((with_reducible refine And.intro ?_ ?_); focus (first | exact True.intro | (simp only [InK]; omega) | omega | (simp only [InK, ne_eq, and_true, true_and]; omega) | trivial)) | (simp -dsimp only [↓RP, RQ0, RQ1, RQ2, RQ3, implies_true, forall_const, Nat.reduceMul, reduceIte, reduceCtorEq, Nat.reduceAdd, Nat.reduceEqDiff, Nat.reduceLT, Nat.reduceLeDiff, tup3, B, I, by2, ty5, ty51, decide_true, decide_false, Bool.not_true, Bool.not_false, eq_self, and_self, Nat.zero_add, Int.toNat_natCast, TY, Go.Proofs.Try.results50])))
        refine callVC k56 (by (simp -dsimp only [↓RP, RQ0, RQ1, RQ2, RQ3, implies_true, forall_const, Nat.reduceMul, reduceIte, reduceCtorEq, Nat.reduceAdd, Nat.reduceEqDiff, Nat.reduceLT, Nat.reduceLeDiff, quR, chn, Curve.sv, ints, I, B]); all_goals (try simp); all_goals (try exact fun _ _ => rfl)) (by (simp -dsimp only [↓RP, RQ0, RQ1, RQ2, RQ3, implies_true, forall_const, Nat.reduceMul, reduceIte, reduceCtorEq, Nat.reduceAdd, Nat.reduceEqDiff, Nat.reduceLT, Nat.reduceLeDiff, I, B])) ?_
        (repeat' (first | with_reducible refine splitVC_d (fun _ => ?_) (fun _ => ?_) | ((with_reducible refine And.intro ?_ ?_); focus (first | exact True.intro | (simp only [InK]; omega) | omega | (simp only [InK, ne_eq, and_true, true_and]; omega) | trivial)) | (simp -dsimp only [↓RP, RQ0, RQ1, RQ2, RQ3, implies_true, forall_const, Nat.reduceMul, reduceIte, reduceCtorEq, Nat.reduceAdd, Nat.reduceEqDiff, Nat.reduceLT, Nat.reduceLeDiff, quR, tup3, B, I, by2, ty5, ty51, decide_true, decide_false, Bool.not_true, Bool.not_false, eq_self, and_self, Nat.zero_add, Int.toNat_natCast, TY, Go.Proofs.Try.results50])))
        all_goals first | (exfalso; omega) | skip
        refine callVC k36 (by (simp -dsimp only [↓RP, RQ0, RQ1, RQ2, RQ3, implies_true, forall_const, Nat.reduceMul, reduceIte, reduceCtorEq, Nat.reduceAdd, Nat.reduceEqDiff, Nat.reduceLT, Nat.reduceLeDiff, quR, thrR, Curve.sv, ints, I, B]); all_goals (try simp)) (by (simp -dsimp only [↓RP, RQ0, RQ1, RQ2, RQ3, implies_true, forall_const, Nat.reduceMul, reduceIte, reduceCtorEq, Nat.reduceAdd, Nat.reduceEqDiff, Nat.reduceLT, Nat.reduceLeDiff, tup3, I])) ?_
        (repeat' (first | with_reducible refine splitVC_d (fun _ => ?_) (fun _ => ?_) | ((with_reducible refine And.intro ?_ ?_); focus (first | exact True.intro | (simp only [InK]; omega) | omega | (simp only [InK, ne_eq, and_true, true_and]; omega) | trivial)) | (simp -dsimp only [↓RP, RQ0, RQ1, RQ2, RQ3, implies_true, forall_const, Nat.reduceMul, reduceIte, reduceCtorEq, Nat.reduceAdd, Nat.reduceEqDiff, Nat.reduceLT, Nat.reduceLeDiff, tup3, B, I, by2, ty5, ty51, decide_true, decide_false, Bool.not_true, Bool.not_false, eq_self, and_self, Nat.zero_add, Int.toNat_natCast, TY, Go.Proofs.Try.results50])))
        all_goals first | (exfalso; omega) | rfl | skip
    · have hr := ownR_row c hc ja (by omega)
      have hs10 : (ownR c ja).S (ownR c ja).m ≤ 10000 := by
        rw [ownR_S]
        have := hM ja
        show c.M ja ≤ 10000
        omega
      have ht := thrR_row (ownR c ja) C hr hs10 n (fun j hj => hA.fines j hj)
      have k56a := c56 n C (ownR c ja) n1 (by omega) hA.fines hr hs10
      rw [ownR_S] at k56a
      have k53a := k53o c hc ja (by omega)
      have k53b := k53t c n C hA ja (by omega) ht
      have hw := own_wait c n C hA ja (by omega) ha2
      have hja := hM ja
      (repeat' (first | with_reducible refine splitVC_d (fun _ => ?_) (fun _ => ?_) | ((with_reducible refine And.intro ?_ ?_); focus (first | exact True.intro | (simp only [InK]; omega) | omega | (simp only [InK, ne_eq, and_true, true_and]; omega) | trivial)) | (simp -dsimp only [↓RP, RQ0, RQ1, RQ2, RQ3, implies_true, forall_const, Nat.reduceMul, reduceIte, reduceCtorEq, Nat.reduceAdd, Nat.reduceEqDiff, Nat.reduceLT, Nat.reduceLeDiff, e0, tup3, B, I, by2, ty5, ty51, decide_true, decide_false, Bool.not_true, Bool.not_false, eq_self, and_self, Nat.zero_add, Int.toNat_natCast, TY, Go.Proofs.Try.results50])))
      all_goals first | (exfalso; omega) | skip
      refine callN (c31 c hc ja (by omega)) (by (simp -dsimp only [↓RP, RQ0, RQ1, RQ2, RQ3, implies_true, forall_const, Nat.reduceMul, reduceIte, reduceCtorEq, Nat.reduceAdd, Nat.reduceEqDiff, Nat.reduceLT, Nat.reduceLeDiff, Curve.sv, ints, I, B]); all_goals (try simp)) (by (simp -dsimp only [↓RP, RQ0, RQ1, RQ2, RQ3, implies_true, forall_const, Nat.reduceMul, reduceIte, reduceCtorEq, Nat.reduceAdd, Nat.reduceEqDiff, Nat.reduceLT, Nat.reduceLeDiff, I]); all_goals simp) (by (simp -dsimp only [↓RP, RQ0, RQ1, RQ2, RQ3, implies_true, forall_const, Nat.reduceMul, reduceIte, reduceCtorEq, Nat.reduceAdd, Nat.reduceEqDiff, Nat.reduceLT, Nat.reduceLeDiff, I]); all_goals simp) ?_
      (repeat' (first | with_reducible refine splitVC_d (fun _ => ?_) (fun _ => ?_) | ((with_reducible refine And.intro ?_ ?_); focus (first | exact True.intro | (simp only [InK]; omega) | omega | (simp only [InK, ne_eq, and_true, true_and]; omega) | trivial)) | (simp -dsimp only [↓RP, RQ0, RQ1, RQ2, RQ3, implies_true, forall_const, Nat.reduceMul, reduceIte, reduceCtorEq, Nat.reduceAdd, Nat.reduceEqDiff, Nat.reduceLT, Nat.reduceLeDiff, e0, tup3, B, I, by2, ty5, ty51, decide_true, decide_false, Bool.not_true, Bool.not_false, eq_self, and_self, Nat.zero_add, Int.toNat_natCast, TY, Go.Proofs.Try.results50])))
      refine callVC k56a (by (simp -dsimp only [↓RP, RQ0, RQ1, RQ2, RQ3, implies_true, forall_const, Nat.reduceMul, reduceIte, reduceCtorEq, Nat.reduceAdd, Nat.reduceEqDiff, Nat.reduceLT, Nat.reduceLeDiff, ownR, chn, Curve.sv, ints, I, B]); all_goals (try simp); all_goals (try exact fun _ _ => rfl)) (by (simp -dsimp only [↓RP, RQ0, RQ1, RQ2, RQ3, implies_true, forall_const, Nat.reduceMul, reduceIte, reduceCtorEq, Nat.reduceAdd, Nat.reduceEqDiff, Nat.reduceLT, Nat.reduceLeDiff, I, B])) ?_
      (repeat' (first | with_reducible refine splitVC_d (fun _ => ?_) (fun _ => ?_) | ((with_reducible refine And.intro ?_ ?_); focus (first | exact True.intro | (simp only [InK]; omega) | omega | (simp only [InK, ne_eq, and_true, true_and]; omega) | trivial)) | (simp -dsimp only [↓RP, RQ0, RQ1, RQ2, RQ3, implies_true, forall_const, Nat.reduceMul, reduceIte, reduceCtorEq, Nat.reduceAdd, Nat.reduceEqDiff, Nat.reduceLT, Nat.reduceLeDiff, ownR, tup3, B, I, by2, ty5, ty51, decide_true, decide_false, Bool.not_true, Bool.not_false, eq_self, and_self, Nat.zero_add, Int.toNat_natCast, TY, Go.Proofs.Try.results50])))
      all_goals first | (exfalso; omega) | skip
      refine callVC k53a (by (simp -dsimp only [↓RP, RQ0, RQ1, RQ2, RQ3, implies_true, forall_const, Nat.reduceMul, reduceIte, reduceCtorEq, Nat.reduceAdd, Nat.reduceEqDiff, Nat.reduceLT, Nat.reduceLeDiff, Curve.sv, ints, I, B]); all_goals (try simp)) (by (simp -dsimp only [↓RP, RQ0, RQ1, RQ2, RQ3, implies_true, forall_const, Nat.reduceMul, reduceIte, reduceCtorEq, Nat.reduceAdd, Nat.reduceEqDiff, Nat.reduceLT, Nat.reduceLeDiff, I])) ?_
      (repeat' (first | with_reducible refine splitVC_d (fun _ => ?_) (fun _ => ?_) | ((with_reducible refine And.intro ?_ ?_); focus (first | exact True.intro | (simp only [InK]; omega) | omega | (simp only [InK, ne_eq, and_true, true_and]; omega) | trivial)) | (simp -dsimp only [↓RP, RQ0, RQ1, RQ2, RQ3, implies_true, forall_const, Nat.reduceMul, reduceIte, reduceCtorEq, Nat.reduceAdd, Nat.reduceEqDiff, Nat.reduceLT, Nat.reduceLeDiff, tup3, B, I, by2, ty5, ty51, decide_true, decide_false, Bool.not_true, Bool.not_false, eq_self, and_self, Nat.zero_add, Int.toNat_natCast, TY, Go.Proofs.Try.results50])))
      refine callVC k53b (by (simp -dsimp only [↓RP, RQ0, RQ1, RQ2, RQ3, implies_true, forall_const, Nat.reduceMul, reduceIte, reduceCtorEq, Nat.reduceAdd, Nat.reduceEqDiff, Nat.reduceLT, Nat.reduceLeDiff, Curve.sv, ints, I, B]); all_goals (try simp)) (by (simp -dsimp only [↓RP, RQ0, RQ1, RQ2, RQ3, implies_true, forall_const, Nat.reduceMul, reduceIte, reduceCtorEq, Nat.reduceAdd, Nat.reduceEqDiff, Nat.reduceLT, Nat.reduceLeDiff, I])) ?_
      (repeat' (first | with_reducible refine splitVC_d (fun _ => ?_) (fun _ => ?_) | ((with_reducible refine And.intro ?_ ?_); focus (first | exact True.intro | (simp only [InK]; omega) | omega | (simp only [InK, ne_eq, and_true, true_and]; omega) | trivial)) | (simp -dsimp only [↓RP, RQ0, RQ1, RQ2, RQ3, implies_true, forall_const, Nat.reduceMul, reduceIte, reduceCtorEq, Nat.reduceAdd, Nat.reduceEqDiff, Nat.reduceLT, Nat.reduceLeDiff, hw, tup3, B, I, by2, ty5, ty51, decide_true, decide_false, Bool.not_true, Bool.not_false, eq_self, and_self, Nat.zero_add, Int.toNat_natCast, TY, Go.Proofs.Try.results50])))
      all_goals first | (exfalso; omega) | skip
      rcases ib with rfl | ⟨jb, rfl, hb1, hb2⟩
      · (repeat' (first | with_reducible refine splitVC_d (fun _ => ?_) (fun _ => ?_) | ((with_reducible refine And.intro ?_ ?_); focus (first | exact True.intro | (simp only [InK]; omega) | omega | (simp only [InK, ne_eq, and_true, true_and]; omega) | trivial)) | (simp -dsimp only [↓RP, RQ0, RQ1, RQ2, RQ3, implies_true, forall_const, Nat.reduceMul, reduceIte, reduceCtorEq, Nat.reduceAdd, Nat.reduceEqDiff, Nat.reduceLT, Nat.reduceLeDiff, tup3, B, I, by2, ty5, ty51, decide_true, decide_false, Bool.not_true, Bool.not_false, eq_self, and_self, Nat.zero_add, Int.toNat_natCast, TY, Go.Proofs.Try.results50])))
        all_goals first | (exfalso; omega) | rfl | skip
      · have hq := quR_row c hc jb l hb1
        have hq2 := quR_10000 c hc jb l hb1
        have hqf := quR_flow c n C hA jb l hb1
        obtain ⟨xw, hs⟩ := quR_late c n C hA jb l hb1 hl hb2
        have k36 := c36 (quR c jb l) (thrR (quR c jb l) C n) (by show jb + l ≤ _; omega) (by show jb + l ≤ _; omega)
        rw [hs] at k36
        have k56 := c56 n C (quR c jb l) n1 (by omega) hA.fines hq hq2
        have k47 := c47 jb (fun j => c.M (j + 1) - c.M j) l (by omega) (by omega)
        (repeat' (first | with_reducible refine splitVC_d (fun _ => ?_) (fun _ => ?_) | ((with_reducible refine And.intro ?_ ?_); focus (first | exact True.intro | (simp only [InK]; omega) | omega | (simp only [InK, ne_eq, and_true, true_and]; omega) | trivial)) | (simp -dsimp only [↓RP, RQ0, RQ1, RQ2, RQ3, implies_true, forall_const, Nat.reduceMul, reduceIte, reduceCtorEq, Nat.reduceAdd, Nat.reduceEqDiff, Nat.reduceLT, Nat.reduceLeDiff, tup3, B, I, by2, ty5, ty51, decide_true, decide_false, Bool.not_true, Bool.not_false, eq_self, and_self, Nat.zero_add, Int.toNat_natCast, TY, Go.Proofs.Try.results50])))
        all_goals first | (exfalso; omega) | skip
        refine callN (c31 c hc jb (by omega)) (by (simp -dsimp only [↓RP, RQ0, RQ1, RQ2, RQ3, implies_true, forall_const, Nat.reduceMul, reduceIte, reduceCtorEq, Nat.reduceAdd, Nat.reduceEqDiff, Nat.reduceLT, Nat.reduceLeDiff, Curve.sv, ints, I, B]); all_goals (try simp)) (by (simp -dsimp only [↓RP, RQ0, RQ1, RQ2, RQ3, implies_true, forall_const, Nat.reduceMul, reduceIte, reduceCtorEq, Nat.reduceAdd, Nat.reduceEqDiff, Nat.reduceLT, Nat.reduceLeDiff, I]); all_goals simp) (by (simp -dsimp only [↓RP, RQ0, RQ1, RQ2, RQ3, implies_true, forall_const, Nat.reduceMul, reduceIte, reduceCtorEq, Nat.reduceAdd, Nat.reduceEqDiff, Nat.reduceLT, Nat.reduceLeDiff, I]); all_goals simp) ?_
        (repeat' (first | with_reducible refine splitVC_d (fun _ => ?_) (fun _ => ?_) | ((with_reducible refine And.intro ?_ ?_); focus (first | exact True.intro | (simp only [InK]; omega) | omega | (simp only [InK, ne_eq, and_true, true_and]; omega) | trivial)) | (simp -dsimp only [↓RP, RQ0, RQ1, RQ2, RQ3, implies_true, forall_const, Nat.reduceMul, reduceIte, reduceCtorEq, Nat.reduceAdd, Nat.reduceEqDiff, Nat.reduceLT, Nat.reduceLeDiff, tup3, B, I, by2, ty5, ty51, decide_true, decide_false, Bool.not_true, Bool.not_false, eq_self, and_self, Nat.zero_add, Int.toNat_natCast, TY, Go.Proofs.Try.results50])))
        all_goals first | (exfalso; omega) | skip
        refine callN k47 (by (simp -dsimp only [↓RP, RQ0, RQ1, RQ2, RQ3, implies_true, forall_const, Nat.reduceMul, reduceIte, reduceCtorEq, Nat.reduceAdd, Nat.reduceEqDiff, Nat.reduceLT, Nat.reduceLeDiff, Curve.sv, ints, I, B]); all_goals (try simp)) (by (simp -dsimp only [↓RP, RQ0, RQ1, RQ2, RQ3, implies_true, forall_const, Nat.reduceMul, reduceIte, reduceCtorEq, Nat.reduceAdd, Nat.reduceEqDiff, Nat.reduceLT, Nat.reduceLeDiff, I]); all_goals simp) (by (simp -dsimp only [↓RP, RQ0, RQ1, RQ2, RQ3, implies_true, forall_const, Nat.reduceMul, reduceIte, reduceCtorEq, Nat.reduceAdd, Nat.reduceEqDiff, Nat.reduceLT, Nat.reduceLeDiff, I]); all_goals simp) ?_
        (repeat' (first | with_reducible refine splitVC_d (fun _ => ?_) (fun _ => ?_) | ((with_reducible refine And.intro ?_ ?_); focus (first | exact True.intro | (simp only [InK]; omega) | omega | (simp only [InK, ne_eq, and_true, true_and]; omega) | trivial)) | (simp -dsimp only [↓RP, RQ0, RQ1, RQ2, RQ3, implies_true, forall_const, Nat.reduceMul, reduceIte, reduceCtorEq, Nat.reduceAdd, Nat.reduceEqDiff, Nat.reduceLT, Nat.reduceLeDiff, tup3, B, I, by2, ty5, ty51, decide_true, decide_false, Bool.not_true, Bool.not_false, eq_self, and_self, Nat.zero_add, Int.toNat_natCast, TY, Go.Proofs.Try.results50])))
        refine callVC k56 (by (simp -dsimp only [↓RP, RQ0, RQ1, RQ2, RQ3, implies_true, forall_const, Nat.reduceMul, reduceIte, reduceCtorEq, Nat.reduceAdd, Nat.reduceEqDiff, Nat.reduceLT, Nat.reduceLeDiff, quR, chn, Curve.sv, ints, I, B]); all_goals (try simp); all_goals (try exact fun _ _ => rfl)) (by (simp -dsimp only [↓RP, RQ0, RQ1, RQ2, RQ3, implies_true, forall_const, Nat.reduceMul, reduceIte, reduceCtorEq, Nat.reduceAdd, Nat.reduceEqDiff, Nat.reduceLT, Nat.reduceLeDiff, I, B])) ?_
        (repeat' (first | with_reducible refine splitVC_d (fun _ => ?_) (fun _ => ?_) | ((with_reducible refine And.intro ?_ ?_); focus (first | exact True.intro | (simp only [InK]; omega) | omega | (simp only [InK, ne_eq, and_true, true_and]; omega) | trivial)) | (simp -dsimp only [↓RP, RQ0, RQ1, RQ2, RQ3, implies_true, forall_const, Nat.reduceMul, reduceIte, reduceCtorEq, Nat.reduceAdd, Nat.reduceEqDiff, Nat.reduceLT, Nat.reduceLeDiff, quR, tup3, B, I, by2, ty5, ty51, decide_true, decide_false, Bool.not_true, Bool.not_false, eq_self, and_self, Nat.zero_add, Int.toNat_natCast, TY, Go.Proofs.Try.results50])))
        all_goals first | (exfalso; omega) | skip
        refine callVC k36 (by (simp -dsimp only [↓RP, RQ0, RQ1, RQ2, RQ3, implies_true, forall_const, Nat.reduceMul, reduceIte, reduceCtorEq, Nat.reduceAdd, Nat.reduceEqDiff, Nat.reduceLT, Nat.reduceLeDiff, quR, thrR, Curve.sv, ints, I, B]); all_goals (try simp)) (by (simp -dsimp only [↓RP, RQ0, RQ1, RQ2, RQ3, implies_true, forall_const, Nat.reduceMul, reduceIte, reduceCtorEq, Nat.reduceAdd, Nat.reduceEqDiff, Nat.reduceLT, Nat.reduceLeDiff, tup3, I])) ?_
        (repeat' (first | with_reducible refine splitVC_d (fun _ => ?_) (fun _ => ?_) | ((with_reducible refine And.intro ?_ ?_); focus (first | exact True.intro | (simp only [InK]; omega) | omega | (simp only [InK, ne_eq, and_true, true_and]; omega) | trivial)) | (simp -dsimp only [↓RP, RQ0, RQ1, RQ2, RQ3, implies_true, forall_const, Nat.reduceMul, reduceIte, reduceCtorEq, Nat.reduceAdd, Nat.reduceEqDiff, Nat.reduceLT, Nat.reduceLeDiff, tup3, B, I, by2, ty5, ty51, decide_true, decide_false, Bool.not_true, Bool.not_false, eq_self, and_self, Nat.zero_add, Int.toNat_natCast, TY, Go.Proofs.Try.results50])))
        all_goals first | (exfalso; omega) | rfl | skip
end Go.Lg
end
section
set_option linter.unusedSimpArgs false
set_option linter.unusedVariables false
set_option linter.defProp false
set_option maxRecDepth 100000
set_option maxHeartbeats 16000000
namespace Go.Lg
open Go.Sx
def keQ (c : Curve) (m : Nat) (b : Nat → Int) (l : Nat) : Nat → Int := qz (K c.M b) m
theorem keQ_S (c : Curve) (m : Nat) (b : Nat → Int) (l t : Nat) : sumTo (keQ c m b l) t = KS c.M b (min t m) := by
  unfold keQ
  rw [sum_qz, KS_sum]
theorem keQ_row (c : Curve) (hc : c.Fine) (m : Nat) (b : Nat → Int) (hb : ∀ i, i < m → 0 ≤ b i ∧ b i ≤ 255) (l : Nat) (h : m + l ≤ 60) : Row ⟨m + l, keQ c m b l⟩ := by
  refine ⟨h, fun i hi => ?_⟩
  show 0 ≤ qz (K c.M b) m i ∧ qz (K c.M b) m i ≤ 10000
  unfold qz
  split
  · rename_i hm
    have := K_rg hc b i (hb i hm)
    omega
  · omega
theorem keQ_10000 (c : Curve) (hc : c.Fine) (m : Nat) (b : Nat → Int) (hb : ∀ i, i < m → 0 ≤ b i ∧ b i ≤ 255) (l : Nat) (h : m + l ≤ 60) (hm : m ≤ 20) : sumTo (keQ c m b l) (m + l) ≤ 10000 := by
  rw [keQ_S, show min (m + l) m = m by omega, ← KS_sum]
  have := sumTo_bound (K c.M b) 255 m (fun i hi => K_rg hc b i (hb i hi)) m (Nat.le_refl _)
  omega
theorem keQ_keeps (c : Curve) (hc : c.Fine) (m : Nat) (b : Nat → Int) (l s t : Nat) (h : s ≤ t) : sumTo (keQ c m b l) t - sumTo (keQ c m b l) s ≤ c.M (t - s) := by
  rw [keQ_S, keQ_S]
  have h1 := KS_keeps c.M b (M_bound hc 0).1 (min t m) (min s m) (by omega)
  have h2 := M_mono hc (t - s) (min t m - min s m) (by omega)
  omega
theorem keQ_none (c : Curve) (hc : c.Fine) (m : Nat) (b : Nat → Int) (hb : ∀ i, i < m → 0 ≤ b i ∧ b i ≤ 255) (l : Nat) (h : m + l ≤ 60) : breakV c ⟨m + l, keQ c m b l⟩ = (0, 0, 5) :=
  break_none hc (keQ_row c hc m b hb l h) fun s k h1 h2 => by
    have := keQ_keeps c hc m b l s (s + k) (by omega)
    rw [Nat.add_sub_cancel_left] at this
    exact this
theorem add_check (C : Nat → Curve) (T p : Nat) (q u : Nat → Int) (i : Nat) (h : AddOk C T p q u i) (h2 : AddOk C T p q u (i + 1)) (hc : (C i).Fine) (hq : ∀ j, j < p → 0 ≤ q j ∧ q j ≤ 255) : checkAddV (C i) ⟨T, addU C T p q u i⟩ ⟨T, addU C T p q u (i + 1)⟩ = 0 := by
  have f := NA_facts (C i) ⟨T, addU C T p q u i⟩ hc h.row.rg p q hq
  have e0 : (C i).NA ⟨T, addU C T p q u i⟩ p q 0 = 0 := rfl
  have eS := difR_S T _ e0
  have eS : ∀ t, sumTo (addU C T p q u (i + 1)) t = (C i).NA ⟨T, addU C T p q u i⟩ p q t := fun t => congrFun eS t
  refine check_ok hc h.row h2.row rfl (fun t ht => ?_) (fun t ht => ?_)
  · show sumTo (addU C T p q u (i + 1)) t ≤ _
    rw [eS]; exact (f t ht).2
  · show _ ≤ sumTo (addU C T p q u (i + 1)) t
    rw [eS]; exact (f t ht).1
theorem keQ_flow (c : Curve) (n : Nat) (C : Nat → Curve) (hA : Ask c n C) (m : Nat) (b : Nat → Int) (hb : ∀ i, i < m → 0 ≤ b i ∧ b i ≤ 255) (l p : Nat) (q : Nat → Int) (h : m + l ≤ 60) (ho : AddOk C (m + l) p q (keQ c m b l) n) : Flow c n C ⟨m + l, keQ c m b l⟩ ⟨m + l, addU C (m + l) p q (keQ c m b l) n⟩ l := by
  refine ⟨keQ_row c hA.fine m b hb l h, ho.row, rfl, fun s t h1 _ => keQ_keeps c hA.fine m b l s t h1, ho.le, fun t ht => ?_, by show l ≤ m + l; omega, ?_⟩
  · have := ho.ge t ht
    rw [thr_Lc _ _ _ _ hA.n1] at this
    exact this
  · show sumTo (keQ c m b l) (m + l - l) = sumTo (keQ c m b l) (m + l)
    rw [keQ_S, keQ_S, show min (m + l - l) m = m by omega, show min (m + l) m = m by omega]
theorem c8 (hw : Wk19) (c : Curve) (n : Nat) (C : Nat → Curve) (m : Nat) (b : Nat → Int) (hb : ∀ i, i < m → 0 ≤ b i ∧ b i ≤ 255) (p : Nat) (q : Nat → Int) (hq : ∀ i, i < p → 0 ≤ q i ∧ q i ≤ 255) : Contract Go.Proofs.Try.prog 8 [c.sv, chn n C, u8s m b, u8s p q] (B true) := by
  refine contract_of Go.Proofs.Try.func8 rfl (by kernel_rfl) follows (by kernel_rfl) _ _ (by rw [Go.Proofs.Try.ntmps8]; simp) (by simp only [OldL, c.old, chn_old, u8s_old, and_self, and_true, true_and]) ?_
  unfold B
  conv => arg 4; unfold chn Curve.sv ints u8s
  (repeat' (first | with_reducible refine splitVC_d (fun _ => ?_) (fun _ => ?_) | ((with_reducible refine And.intro ?_ ?_); focus (first | exact True.intro | (simp only [InK]; omega) | omega | (simp only [InK, ne_eq, and_true, true_and]; omega) | trivial)) | (simp -dsimp only [↓RP, RQ0, RQ1, RQ2, RQ3, implies_true, forall_const, Nat.reduceMul, reduceIte, reduceCtorEq, Nat.reduceAdd, Nat.reduceEqDiff, Nat.reduceLT, Nat.reduceLeDiff, tup3, B, I, by2, ty5, ty51, decide_true, decide_false, Bool.not_true, Bool.not_false, eq_self, and_self, Nat.zero_add, Int.toNat_natCast, TY, Go.Proofs.Try.results8])))
  refine callVC (c46 c n C) (by (simp -dsimp only [↓RP, RQ0, RQ1, RQ2, RQ3, implies_true, forall_const, Nat.reduceMul, reduceIte, reduceCtorEq, Nat.reduceAdd, Nat.reduceEqDiff, Nat.reduceLT, Nat.reduceLeDiff, chn, Curve.sv, ints, I, B]); all_goals (try simp); all_goals exact fun _ _ => rfl) (by (simp -dsimp only [↓RP, RQ0, RQ1, RQ2, RQ3, implies_true, forall_const, Nat.reduceMul, reduceIte, reduceCtorEq, Nat.reduceAdd, Nat.reduceEqDiff, Nat.reduceLT, Nat.reduceLeDiff, B])) ?_
  (repeat' (first | with_reducible refine splitVC_d (fun _ => ?_) (fun _ => ?_) | ((with_reducible refine And.intro ?_ ?_); focus (first | exact True.intro | (simp only [InK]; omega) | omega | (simp only [InK, ne_eq, and_true, true_and]; omega) | trivial)) | (simp -dsimp only [↓RP, RQ0, RQ1, RQ2, RQ3, implies_true, forall_const, Nat.reduceMul, reduceIte, reduceCtorEq, Nat.reduceAdd, Nat.reduceEqDiff, Nat.reduceLT, Nat.reduceLeDiff, tup3, B, I, by2, ty5, ty51, decide_true, decide_false, Bool.not_true, Bool.not_false, eq_self, and_self, Nat.zero_add, Int.toNat_natCast, TY, Go.Proofs.Try.results8])))
  all_goals first | (refine callVC hw (by (simp -dsimp only [↓RP, RQ0, RQ1, RQ2, RQ3, implies_true, forall_const, Nat.reduceMul, reduceIte, reduceCtorEq, Nat.reduceAdd, Nat.reduceEqDiff, Nat.reduceLT, Nat.reduceLeDiff])) (by (simp -dsimp only [↓RP, RQ0, RQ1, RQ2, RQ3, implies_true, forall_const, Nat.reduceMul, reduceIte, reduceCtorEq, Nat.reduceAdd, Nat.reduceEqDiff, Nat.reduceLT, Nat.reduceLeDiff, B])) ?_; (repeat' (first | with_reducible refine splitVC_d (fun _ => ?_) (fun _ => ?_) | ((with_reducible refine And.intro ?_ ?_); focus (first | exact True.intro | (simp only [InK]; omega) | omega | (simp only [InK, ne_eq, and_true, true_and]; omega) | trivial)) | (simp -dsimp only [↓RP, RQ0, RQ1, RQ2, RQ3, implies_true, forall_const, Nat.reduceMul, reduceIte, reduceCtorEq, Nat.reduceAdd, Nat.reduceEqDiff, Nat.reduceLT, Nat.reduceLeDiff, tup3, B, I, by2, ty5, ty51, decide_true, decide_false, Bool.not_true, Bool.not_false, eq_self, and_self, Nat.zero_add, Int.toNat_natCast, TY, Go.Proofs.Try.results8]))); done) | skip
  rename_i h1 h2 h3
  have hA := ask_ok h1
  have hc := hA.fine
  have hm6 := hc.m6
  have n1 := hA.n1
  have n3 := hA.n3
  have l20 := lateB_20 hA
  obtain ⟨l, hl⟩ : ∃ l : Nat, lateB c n C = l := ⟨(lateB c n C).toNat, by omega⟩
  rw [hl] at l20
  have m20 : m ≤ 20 := by omega
  have p20 : p ≤ 20 := by omega
  have w0 : 0 ≤ waitB c n C := bestTo_nonneg _ _
  have k40 := c40 c n C (by omega) (fun j hj => by have := (hA.fines j hj).m6; omega)
  have k42 := c42 c n C (by omega) (fun j hj => by have := (hA.fines j hj).m6; omega)
  rw [show waitV c n C = (waitB c n C, 0) by unfold waitV; rw [if_pos h1]] at k40
  rw [show lateV c n C = ((l : Int), 0) by unfold lateV; rw [if_pos h1, hl]] at k42
  have hT : m + l ≤ 60 := by omega
  have rr := keQ_row c hc m b hb l hT
  have ok := fun i (hi : i ≤ n) => addU_ok C (m + l) p q (keQ c m b l) rr (keQ_10000 c hc m b hb l hT m20) hq i (fun j hj => hA.fines j (by omega))
  have k29 := m29 c ⟨m + l, keQ c m b l⟩ hc rr (keQ_none c hc m b hb l hT)
  have k47 : ContractN Go.Proofs.Try.prog 47 [ints m (K c.M b), I l] (.rows 2 1 (m + l) (fun j _ => I (keQ c m b l j))) (.vec 0 (m + l) 1) := c47 m (K c.M b) l (by omega) (by omega)
  have k50 := c50 c n C hA l hl
  have flow := keQ_flow c n C hA m b hb l p q hT (ok n (Nat.le_refl _))
  have k36 := c36 ⟨m + l, keQ c m b l⟩ ⟨m + l, addU C (m + l) p q (keQ c m b l) n⟩ (by show m + l ≤ _; omega) (by show m + l ≤ _; omega)
  rw [flow.seen hA hl] at k36
  have fw := flow.wait hA (m + l + 1) (Nat.le_refl _)
  have fl := flow.late hA hl (m + l + 1) (Nat.le_refl _)
  have k36 : Contract Go.Proofs.Try.prog 36 [(Curve.mk (m + l) (keQ c m b l)).sv, (Curve.mk (m + l) (addU C (m + l) p q (keQ c m b l) n)).sv] (tup3 (waitTo ⟨m + l, keQ c m b l⟩ ⟨m + l, addU C (m + l) p q (keQ c m b l) n⟩ (m + l + 1), lateTo ⟨m + l, keQ c m b l⟩ ⟨m + l, addU C (m + l) p q (keQ c m b l) n⟩ (m + l + 1), 0)) := k36
  generalize waitTo ⟨m + l, keQ c m b l⟩ ⟨m + l, addU C (m + l) p q (keQ c m b l) n⟩ (m + l + 1) = wx at *
  generalize lateTo ⟨m + l, keQ c m b l⟩ ⟨m + l, addU C (m + l) p q (keQ c m b l) n⟩ (m + l + 1) = lx at *
  generalize waitB c n C = wt at *
  refine callVC k40 (by (simp -dsimp only [↓RP, RQ0, RQ1, RQ2, RQ3, implies_true, forall_const, Nat.reduceMul, reduceIte, reduceCtorEq, Nat.reduceAdd, Nat.reduceEqDiff, Nat.reduceLT, Nat.reduceLeDiff, chn, Curve.sv, ints, I, B]); all_goals (try simp); all_goals exact fun _ _ => rfl) (by (simp -dsimp only [↓RP, RQ0, RQ1, RQ2, RQ3, implies_true, forall_const, Nat.reduceMul, reduceIte, reduceCtorEq, Nat.reduceAdd, Nat.reduceEqDiff, Nat.reduceLT, Nat.reduceLeDiff, I])) ?_
  (repeat' (first | with_reducible refine splitVC_d (fun _ => ?_) (fun _ => ?_) | ((with_reducible refine And.intro ?_ ?_); focus (first | exact True.intro | (simp only [InK]; omega) | omega | (simp only [InK, ne_eq, and_true, true_and]; omega) | trivial)) | (simp -dsimp only [↓RP, RQ0, RQ1, RQ2, RQ3, implies_true, forall_const, Nat.reduceMul, reduceIte, reduceCtorEq, Nat.reduceAdd, Nat.reduceEqDiff, Nat.reduceLT, Nat.reduceLeDiff, tup3, B, I, by2, ty5, ty51, decide_true, decide_false, Bool.not_true, Bool.not_false, eq_self, and_self, Nat.zero_add, Int.toNat_natCast, TY, Go.Proofs.Try.results8])))
  refine callVC k42 (by (simp -dsimp only [↓RP, RQ0, RQ1, RQ2, RQ3, implies_true, forall_const, Nat.reduceMul, reduceIte, reduceCtorEq, Nat.reduceAdd, Nat.reduceEqDiff, Nat.reduceLT, Nat.reduceLeDiff, chn, Curve.sv, ints, I, B]); all_goals (try simp); all_goals exact fun _ _ => rfl) (by (simp -dsimp only [↓RP, RQ0, RQ1, RQ2, RQ3, implies_true, forall_const, Nat.reduceMul, reduceIte, reduceCtorEq, Nat.reduceAdd, Nat.reduceEqDiff, Nat.reduceLT, Nat.reduceLeDiff, I])) ?_
  (repeat' (first | with_reducible refine splitVC_d (fun _ => ?_) (fun _ => ?_) | ((with_reducible refine And.intro ?_ ?_); focus (first | exact True.intro | (simp only [InK]; omega) | omega | (simp only [InK, ne_eq, and_true, true_and]; omega) | trivial)) | (simp -dsimp only [↓RP, RQ0, RQ1, RQ2, RQ3, implies_true, forall_const, Nat.reduceMul, reduceIte, reduceCtorEq, Nat.reduceAdd, Nat.reduceEqDiff, Nat.reduceLT, Nat.reduceLeDiff, tup3, B, I, by2, ty5, ty51, decide_true, decide_false, Bool.not_true, Bool.not_false, eq_self, and_self, Nat.zero_add, Int.toNat_natCast, TY, Go.Proofs.Try.results8])))
  all_goals first | (exfalso; omega) | skip
  refine callN (c48 c hc m (by omega) b hb) (by (simp -dsimp only [↓RP, RQ0, RQ1, RQ2, RQ3, implies_true, forall_const, Nat.reduceMul, reduceIte, reduceCtorEq, Nat.reduceAdd, Nat.reduceEqDiff, Nat.reduceLT, Nat.reduceLeDiff, Curve.sv, ints, u8s, I, B]); all_goals (try simp)) (by (simp -dsimp only [↓RP, RQ0, RQ1, RQ2, RQ3, implies_true, forall_const, Nat.reduceMul, reduceIte, reduceCtorEq, Nat.reduceAdd, Nat.reduceEqDiff, Nat.reduceLT, Nat.reduceLeDiff, I]); all_goals simp) (by (simp -dsimp only [↓RP, RQ0, RQ1, RQ2, RQ3, implies_true, forall_const, Nat.reduceMul, reduceIte, reduceCtorEq, Nat.reduceAdd, Nat.reduceEqDiff, Nat.reduceLT, Nat.reduceLeDiff, I]); all_goals simp) ?_
  (repeat' (first | with_reducible refine splitVC_d (fun _ => ?_) (fun _ => ?_) | ((with_reducible refine And.intro ?_ ?_); focus (first | exact True.intro | (simp only [InK]; omega) | omega | (simp only [InK, ne_eq, and_true, true_and]; omega) | trivial)) | (simp -dsimp only [↓RP, RQ0, RQ1, RQ2, RQ3, implies_true, forall_const, Nat.reduceMul, reduceIte, reduceCtorEq, Nat.reduceAdd, Nat.reduceEqDiff, Nat.reduceLT, Nat.reduceLeDiff, tup3, B, I, by2, ty5, ty51, decide_true, decide_false, Bool.not_true, Bool.not_false, eq_self, and_self, Nat.zero_add, Int.toNat_natCast, TY, Go.Proofs.Try.results8])))
  refine callN k47 (by (simp -dsimp only [↓RP, RQ0, RQ1, RQ2, RQ3, implies_true, forall_const, Nat.reduceMul, reduceIte, reduceCtorEq, Nat.reduceAdd, Nat.reduceEqDiff, Nat.reduceLT, Nat.reduceLeDiff, Curve.sv, ints, I, B]); all_goals (try simp)) (by (simp -dsimp only [↓RP, RQ0, RQ1, RQ2, RQ3, implies_true, forall_const, Nat.reduceMul, reduceIte, reduceCtorEq, Nat.reduceAdd, Nat.reduceEqDiff, Nat.reduceLT, Nat.reduceLeDiff, I]); all_goals simp) (by (simp -dsimp only [↓RP, RQ0, RQ1, RQ2, RQ3, implies_true, forall_const, Nat.reduceMul, reduceIte, reduceCtorEq, Nat.reduceAdd, Nat.reduceEqDiff, Nat.reduceLT, Nat.reduceLeDiff, I]); all_goals simp) ?_
  (repeat' (first | with_reducible refine splitVC_d (fun _ => ?_) (fun _ => ?_) | ((with_reducible refine And.intro ?_ ?_); focus (first | exact True.intro | (simp only [InK]; omega) | omega | (simp only [InK, ne_eq, and_true, true_and]; omega) | trivial)) | (simp -dsimp only [↓RP, RQ0, RQ1, RQ2, RQ3, implies_true, forall_const, Nat.reduceMul, reduceIte, reduceCtorEq, Nat.reduceAdd, Nat.reduceEqDiff, Nat.reduceLT, Nat.reduceLeDiff, tup3, B, I, by2, ty5, ty51, decide_true, decide_false, Bool.not_true, Bool.not_false, eq_self, and_self, Nat.zero_add, Int.toNat_natCast, TY, Go.Proofs.Try.results8])))
  refine callVC k29 (by (simp -dsimp only [↓RP, RQ0, RQ1, RQ2, RQ3, implies_true, forall_const, Nat.reduceMul, reduceIte, reduceCtorEq, Nat.reduceAdd, Nat.reduceEqDiff, Nat.reduceLT, Nat.reduceLeDiff, Curve.sv, ints, I, B]); all_goals (try simp)) (by (simp -dsimp only [↓RP, RQ0, RQ1, RQ2, RQ3, implies_true, forall_const, Nat.reduceMul, reduceIte, reduceCtorEq, Nat.reduceAdd, Nat.reduceEqDiff, Nat.reduceLT, Nat.reduceLeDiff, I])) ?_
  (repeat' (first | with_reducible refine splitVC_d (fun _ => ?_) (fun _ => ?_) | ((with_reducible refine And.intro ?_ ?_); focus (first | exact True.intro | (simp only [InK]; omega) | omega | (simp only [InK, ne_eq, and_true, true_and]; omega) | trivial)) | (simp -dsimp only [↓RP, RQ0, RQ1, RQ2, RQ3, implies_true, forall_const, Nat.reduceMul, reduceIte, reduceCtorEq, Nat.reduceAdd, Nat.reduceEqDiff, Nat.reduceLT, Nat.reduceLeDiff, tup3, B, I, by2, ty5, ty51, decide_true, decide_false, Bool.not_true, Bool.not_false, eq_self, and_self, Nat.zero_add, Int.toNat_natCast, TY, Go.Proofs.Try.results8])))
  refine loop_vc (fun (i : Nat) => i ≤ n) (fun i => ⟨[(0, .arr false false c.m 1 (fun i _ => .val (.int .i64 (c.u i)))), (1, .arr false false n 1 (fun i _ => .arr false false (C i).m 1 (fun j _ => .val (.int .i64 ((C i).u j))))), (3, .arr false false p 1 (fun i _ => .val (.int .u8 (q i)))), (9, .val (.int .i64 wt)), (11, .val (.int .i64 l)), (16, .val (.int .i64 5)), (13, .arr false false (m + l) 1 (fun j _ => .val (.int .i64 (keQ c m b l j)))), (17, .arr false false (m + l) 1 (fun j _ => .val (.int .i64 (addU C (m + l) p q (keQ c m b l) i j)))), (18, .val (.int .i64 i))], [], 0⟩) (fun i => n - i) 0 (Nat.zero_le _) (weak [] [53] ?_ ?_ ?_) fun i hi => ?_
  · (simp -dsimp only [↓RP, RQ0, RQ1, RQ2, RQ3, implies_true, forall_const, Nat.reduceMul, reduceIte, reduceCtorEq, Nat.reduceAdd, Nat.reduceEqDiff, Nat.reduceLT, Nat.reduceLeDiff, addU]); all_goals simp
  · (simp -dsimp only [↓RP, RQ0, RQ1, RQ2, RQ3, implies_true, forall_const, Nat.reduceMul, reduceIte, reduceCtorEq, Nat.reduceAdd, Nat.reduceEqDiff, Nat.reduceLT, Nat.reduceLeDiff])
  · (simp -dsimp only [↓RP, RQ0, RQ1, RQ2, RQ3, implies_true, forall_const, Nat.reduceMul, reduceIte, reduceCtorEq, Nat.reduceAdd, Nat.reduceEqDiff, Nat.reduceLT, Nat.reduceLeDiff])
  by_cases hlt : i < n
  · have o1 := ok i (by omega)
    have o2 := ok (i + 1) (by omega)
    have k38 := m38 (C i) _ _ 0 (hA.fines i hlt) o1.row o2.row (add_check C (m + l) p q (keQ c m b l) i o1 o2 (hA.fines i hlt) hq)
    (repeat' (first | with_reducible refine splitVC_d (fun _ => ?_) (fun _ => ?_) | ((with_reducible refine And.intro ?_ ?_); focus (first | exact True.intro | (simp only [InK]; omega) | omega | (simp only [InK, ne_eq, and_true, true_and]; omega) | trivial)) | (simp -dsimp only [↓RP, RQ0, RQ1, RQ2, RQ3, implies_true, forall_const, Nat.reduceMul, reduceIte, reduceCtorEq, Nat.reduceAdd, Nat.reduceEqDiff, Nat.reduceLT, Nat.reduceLeDiff, tup3, B, I, by2, ty5, ty51, decide_true, decide_false, Bool.not_true, Bool.not_false, eq_self, and_self, Nat.zero_add, Int.toNat_natCast, TY, Go.Proofs.Try.results8])))
    all_goals first | (exfalso; omega) | skip
    refine callN (k49 C (m + l) p q (keQ c m b l) i o1 (hA.fines i hlt) (by omega) hq) (by (simp -dsimp only [↓RP, RQ0, RQ1, RQ2, RQ3, implies_true, forall_const, Nat.reduceMul, reduceIte, reduceCtorEq, Nat.reduceAdd, Nat.reduceEqDiff, Nat.reduceLT, Nat.reduceLeDiff, Curve.sv, ints, u8s, I, B]); all_goals (try simp)) (by (simp -dsimp only [↓RP, RQ0, RQ1, RQ2, RQ3, implies_true, forall_const, Nat.reduceMul, reduceIte, reduceCtorEq, Nat.reduceAdd, Nat.reduceEqDiff, Nat.reduceLT, Nat.reduceLeDiff, I]); all_goals simp) (by (simp -dsimp only [↓RP, RQ0, RQ1, RQ2, RQ3, implies_true, forall_const, Nat.reduceMul, reduceIte, reduceCtorEq, Nat.reduceAdd, Nat.reduceEqDiff, Nat.reduceLT, Nat.reduceLeDiff, I]); all_goals simp) ?_
    (repeat' (first | with_reducible refine splitVC_d (fun _ => ?_) (fun _ => ?_) | ((with_reducible refine And.intro ?_ ?_); focus (first | exact True.intro | (simp only [InK]; omega) | omega | (simp only [InK, ne_eq, and_true, true_and]; omega) | trivial)) | (simp -dsimp only [↓RP, RQ0, RQ1, RQ2, RQ3, implies_true, forall_const, Nat.reduceMul, reduceIte, reduceCtorEq, Nat.reduceAdd, Nat.reduceEqDiff, Nat.reduceLT, Nat.reduceLeDiff, tup3, B, I, by2, ty5, ty51, decide_true, decide_false, Bool.not_true, Bool.not_false, eq_self, and_self, Nat.zero_add, Int.toNat_natCast, TY, Go.Proofs.Try.results8])))
    all_goals first | (exfalso; omega) | skip
    refine callVC k38 (by (simp -dsimp only [↓RP, RQ0, RQ1, RQ2, RQ3, implies_true, forall_const, Nat.reduceMul, reduceIte, reduceCtorEq, Nat.reduceAdd, Nat.reduceEqDiff, Nat.reduceLT, Nat.reduceLeDiff, Curve.sv, ints, I, B]); all_goals (try simp)) (by (simp -dsimp only [↓RP, RQ0, RQ1, RQ2, RQ3, implies_true, forall_const, Nat.reduceMul, reduceIte, reduceCtorEq, Nat.reduceAdd, Nat.reduceEqDiff, Nat.reduceLT, Nat.reduceLeDiff, I])) ?_
    (repeat' (first | with_reducible refine splitVC_d (fun _ => ?_) (fun _ => ?_) | ((with_reducible refine And.intro ?_ ?_); focus (first | exact True.intro | (simp only [InK]; omega) | omega | (simp only [InK, ne_eq, and_true, true_and]; omega) | trivial)) | (simp -dsimp only [↓RP, RQ0, RQ1, RQ2, RQ3, implies_true, forall_const, Nat.reduceMul, reduceIte, reduceCtorEq, Nat.reduceAdd, Nat.reduceEqDiff, Nat.reduceLT, Nat.reduceLeDiff, tup3, B, I, by2, ty5, ty51, decide_true, decide_false, Bool.not_true, Bool.not_false, eq_self, and_self, Nat.zero_add, Int.toNat_natCast, TY, Go.Proofs.Try.results8])))
    all_goals first | (exfalso; omega) | skip
    refine ⟨i + 1, by omega, by omega, weak [] [10] ?_ ?_ ?_⟩
    · (simp -dsimp only [↓RP, RQ0, RQ1, RQ2, RQ3, implies_true, forall_const, Nat.reduceMul, reduceIte, reduceCtorEq, Nat.reduceAdd, Nat.reduceEqDiff, Nat.reduceLT, Nat.reduceLeDiff]); all_goals simp
    · (simp -dsimp only [↓RP, RQ0, RQ1, RQ2, RQ3, implies_true, forall_const, Nat.reduceMul, reduceIte, reduceCtorEq, Nat.reduceAdd, Nat.reduceEqDiff, Nat.reduceLT, Nat.reduceLeDiff])
    · (simp -dsimp only [↓RP, RQ0, RQ1, RQ2, RQ3, implies_true, forall_const, Nat.reduceMul, reduceIte, reduceCtorEq, Nat.reduceAdd, Nat.reduceEqDiff, Nat.reduceLT, Nat.reduceLeDiff])
  have hin : i = n := by omega
  subst hin
  (repeat' (first | with_reducible refine splitVC_d (fun _ => ?_) (fun _ => ?_) | ((with_reducible refine And.intro ?_ ?_); focus (first | exact True.intro | (simp only [InK]; omega) | omega | (simp only [InK, ne_eq, and_true, true_and]; omega) | trivial)) | (simp -dsimp only [↓RP, RQ0, RQ1, RQ2, RQ3, implies_true, forall_const, Nat.reduceMul, reduceIte, reduceCtorEq, Nat.reduceAdd, Nat.reduceEqDiff, Nat.reduceLT, Nat.reduceLeDiff, tup3, B, I, by2, ty5, ty51, decide_true, decide_false, Bool.not_true, Bool.not_false, eq_self, and_self, Nat.zero_add, Int.toNat_natCast, TY, Go.Proofs.Try.results8])))
  all_goals first | (exfalso; omega) | skip
  refine callVC k36 (by (simp -dsimp only [↓RP, RQ0, RQ1, RQ2, RQ3, implies_true, forall_const, Nat.reduceMul, reduceIte, reduceCtorEq, Nat.reduceAdd, Nat.reduceEqDiff, Nat.reduceLT, Nat.reduceLeDiff, Curve.sv, ints, I, B]); all_goals (try simp)) (by (simp -dsimp only [↓RP, RQ0, RQ1, RQ2, RQ3, implies_true, forall_const, Nat.reduceMul, reduceIte, reduceCtorEq, Nat.reduceAdd, Nat.reduceEqDiff, Nat.reduceLT, Nat.reduceLeDiff, tup3, I])) ?_
  (repeat' (first | with_reducible refine splitVC_d (fun _ => ?_) (fun _ => ?_) | ((with_reducible refine And.intro ?_ ?_); focus (first | exact True.intro | (simp only [InK]; omega) | omega | (simp only [InK, ne_eq, and_true, true_and]; omega) | trivial)) | (simp -dsimp only [↓RP, RQ0, RQ1, RQ2, RQ3, implies_true, forall_const, Nat.reduceMul, reduceIte, reduceCtorEq, Nat.reduceAdd, Nat.reduceEqDiff, Nat.reduceLT, Nat.reduceLeDiff, tup3, B, I, by2, ty5, ty51, decide_true, decide_false, Bool.not_true, Bool.not_false, eq_self, and_self, Nat.zero_add, Int.toNat_natCast, TY, Go.Proofs.Try.results8])))
  all_goals first | (exfalso; omega) | skip
  refine callVC k50 (by (simp -dsimp only [↓RP, RQ0, RQ1, RQ2, RQ3, implies_true, forall_const, Nat.reduceMul, reduceIte, reduceCtorEq, Nat.reduceAdd, Nat.reduceEqDiff, Nat.reduceLT, Nat.reduceLeDiff, chn, Curve.sv, ints, I, B]); all_goals (try simp); all_goals exact fun _ _ => rfl) (by (simp -dsimp only [↓RP, RQ0, RQ1, RQ2, RQ3, implies_true, forall_const, Nat.reduceMul, reduceIte, reduceCtorEq, Nat.reduceAdd, Nat.reduceEqDiff, Nat.reduceLT, Nat.reduceLeDiff, B])) ?_
  (repeat' (first | with_reducible refine splitVC_d (fun _ => ?_) (fun _ => ?_) | ((with_reducible refine And.intro ?_ ?_); focus (first | exact True.intro | (simp only [InK]; omega) | omega | (simp only [InK, ne_eq, and_true, true_and]; omega) | trivial)) | (simp -dsimp only [↓RP, RQ0, RQ1, RQ2, RQ3, implies_true, forall_const, Nat.reduceMul, reduceIte, reduceCtorEq, Nat.reduceAdd, Nat.reduceEqDiff, Nat.reduceLT, Nat.reduceLeDiff, tup3, B, I, by2, ty5, ty51, decide_true, decide_false, Bool.not_true, Bool.not_false, eq_self, and_self, Nat.zero_add, Int.toNat_natCast, TY, Go.Proofs.Try.results8])))
  refine callVC hw (by (simp -dsimp only [↓RP, RQ0, RQ1, RQ2, RQ3, implies_true, forall_const, Nat.reduceMul, reduceIte, reduceCtorEq, Nat.reduceAdd, Nat.reduceEqDiff, Nat.reduceLT, Nat.reduceLeDiff])) (by (simp -dsimp only [↓RP, RQ0, RQ1, RQ2, RQ3, implies_true, forall_const, Nat.reduceMul, reduceIte, reduceCtorEq, Nat.reduceAdd, Nat.reduceEqDiff, Nat.reduceLT, Nat.reduceLeDiff, B])) ?_
  (repeat' (first | with_reducible refine splitVC_d (fun _ => ?_) (fun _ => ?_) | ((with_reducible refine And.intro ?_ ?_); focus (first | exact True.intro | (simp only [InK]; omega) | omega | (simp only [InK, ne_eq, and_true, true_and]; omega) | trivial)) | (simp -dsimp only [↓RP, RQ0, RQ1, RQ2, RQ3, implies_true, forall_const, Nat.reduceMul, reduceIte, reduceCtorEq, Nat.reduceAdd, Nat.reduceEqDiff, Nat.reduceLT, Nat.reduceLeDiff, tup3, B, I, by2, ty5, ty51, decide_true, decide_false, Bool.not_true, Bool.not_false, eq_self, and_self, Nat.zero_add, Int.toNat_natCast, TY, Go.Proofs.Try.results8])))
end Go.Lg
end
