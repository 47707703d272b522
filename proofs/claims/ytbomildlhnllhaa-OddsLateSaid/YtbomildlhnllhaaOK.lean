/- A part of the proof. -/
import Derived.Test.YtbomildlhnllhaaOI
import Derived.Test.YtbomildlhnllhaaOJ
section
set_option linter.unusedSimpArgs false
set_option linter.unusedVariables false
set_option linter.defProp false
set_option maxRecDepth 100000
namespace Go.Od
open Go.Proofs
open Go.Sx
theorem red_self {a : Fr} (hd : 0 < a.d) (g : Int.gcd a.n a.d = 1) : red a = a := red_of hd hd g rfl
section
variable {r : Fr} {s : Int} (hn : 0 ≤ r.n) (hd : 0 < r.d) (hs : 1 ≤ s)
include hn hd hs
theorem nb_red : red (nb r s).1 = (nb r s).1 ∧ red (nb r s).2 = (nb r s).2 := by
 have c := (nb_cl r s hn hd hs).1.u
 exact ⟨red_self c.ld (uni_lo c), red_self c.hd (uni_hi c)⟩
end
def smallF (r : Fr) : Prop := ((1 ≤ r.d ∧ r.d ≤ 100) ∧ 0 ≤ r.n ∧ r.n ≤ 1001 * r.d) ∧ red r = r
instance : DecidableEq Fr := fun a b => if h : a.n = b.n ∧ a.d = b.d then isTrue (Fr.ext' h.1 h.2) else isFalse fun e => h (by subst e; exact ⟨rfl, rfl⟩)
instance (r : Fr) : Decidable (smallF r) := by unfold smallF; infer_instance
end Go.Od
end
section
set_option linter.unusedSimpArgs false
set_option linter.unusedVariables false
set_option linter.defProp false
set_option maxRecDepth 100000
namespace Go.Od
open Go.Proofs
open Go.Sx
theorem red_le {a b : Fr} (ha : 0 < a.d) (hb : 0 < b.d) : le (red a) (red b) ↔ le a b := by
 have ⟨a1, a2, a3, a4⟩ := red_spec ha
 have ⟨b1, b2, b3, b4⟩ := red_spec hb
 rw [← not_lt, ← not_lt, lt_same b1 hb a1 ha (by rw [b3]) (by rw [a3])]
theorem odd_mono {own oth own' oth' cut : Int} (h0 : 1 ≤ own') (h1 : own' ≤ own) (h2 : 0 ≤ oth) (h3 : oth ≤ oth') (c0 : 0 ≤ cut) (c1 : cut ≤ 500) : le (oddV own (own + oth) cut) (oddV own' (own' + oth') cut) := by
 unfold oddV
 rw [red_le (by show 0 < 1000 * own; omega) (by show 0 < 1000 * own'; omega)]
 show max 0 ((1000 - cut) * (own + oth) - 1000 * own) * (1000 * own') ≤ max 0 ((1000 - cut) * (own' + oth') - 1000 * own') * (1000 * own)
 have e1 : (1000 - cut) * (own + oth) - 1000 * own = (1000 - cut) * oth - cut * own := by grind
 have e2 : (1000 - cut) * (own' + oth') - 1000 * own' = (1000 - cut) * oth' - cut * own' := by grind
 rw [e1, e2]
 have p0 : 0 ≤ max 0 ((1000 - cut) * oth' - cut * own') * (1000 * own) := Int.mul_nonneg (by omega) (by omega)
 by_cases hz : (1000 - cut) * oth - cut * own ≤ 0
 ·rw [show max 0 ((1000 - cut) * oth - cut * own) = 0 by omega]; omega
 ·rw [show max 0 ((1000 - cut) * oth - cut * own) = (1000 - cut) * oth - cut * own by omega]
  have a1 : (1000 - cut) * oth ≤ (1000 - cut) * oth' := Int.mul_le_mul_of_nonneg_left h3 (by omega)
  have a0 : 0 ≤ (1000 - cut) * oth := Int.mul_nonneg (by omega) h2
  have a2 : (1000 - cut) * oth * own' ≤ (1000 - cut) * oth' * own := Int.mul_le_mul a1 h1 (by omega) (by omega)
  have a3 : ((1000 - cut) * oth' - cut * own') * (1000 * own) ≤ max 0 ((1000 - cut) * oth' - cut * own') * (1000 * own) := Int.mul_le_mul_of_nonneg_right (by omega) (by omega)
  have e3 : ((1000 - cut) * oth' - cut * own') * (1000 * own) = 1000 * ((1000 - cut) * oth' * own) - 1000 * (cut * own * own') := by grind
  have e4 : ((1000 - cut) * oth - cut * own) * (1000 * own') = 1000 * ((1000 - cut) * oth * own') - 1000 * (cut * own * own') := by grind
  omega
theorem sumTo_le {u v : Nat → Int} : ∀ {n : Nat}, (∀ i, i < n → u i ≤ v i) → sumTo u n ≤ sumTo v n
 | 0, _ => Int.le_refl _
 | n + 1, h => by
  simp only [sumTo]
  have := sumTo_le (n := n) fun i hi => h i (by omega)
  have := h n (by omega)
  omega
structure Tight (p t : Pl) : Prop where
 n : t.n = p.n
 cut : t.cut = p.cut
 lo : ∀ i, i < p.n → p.lo i ≤ t.lo i
 hi : ∀ i, i < p.n → t.hi i ≤ p.hi i
theorem exc_le {u v : Nat → Int} {k n : Nat} (h : ∀ i, i < n → u i ≤ v i) : sumTo (fun j => if j = k then 0 else u j) n ≤ sumTo (fun j => if j = k then 0 else v j) n :=
 sumTo_le fun i hi => by show (if i = k then 0 else u i) ≤ (if i = k then 0 else v i); by_cases e : i = k <;> simp only [e, if_true, if_false] <;> first | omega | exact h i hi
theorem Pl.span_le {p : Pl} (hf : p.Fine) {k : Nat} (hk : k < p.n) (h0 : ¬ p.lo k = 0) : le (p.spanOk k).1 (p.spanOk k).2 := by
 have ⟨a1, a2, a3⟩ := hf.rg k hk
 unfold Pl.spanOk
 rw [p.few_sum hk, p.many_sum hk]
 exact odd_mono (by omega) a2 (exc_bd fun i hi => by have := hf.rg i hi; omega).1 (exc_le fun i hi => (hf.rg i hi).2.1) hf.c0 hf.c1
theorem tight_lo {p t : Pl} (hf : p.Fine) (ht : t.Fine) (h : Tight p t) {k : Nat} (hk : k < p.n) (h0 : ¬ p.lo k = 0) : le (p.spanOk k).1 (t.spanOk k).1 ∧ le (t.spanOk k).2 (p.spanOk k).2 := by
 have ⟨a1, a2, a3⟩ := hf.rg k hk
 have hk' : k < t.n := by rw [h.n]; exact hk
 have ⟨b1, b2, b3⟩ := ht.rg k hk'
 have l1 := h.lo k hk
 have l2 := h.hi k hk
 unfold Pl.spanOk
 rw [p.few_sum hk, p.many_sum hk, t.few_sum hk', t.many_sum hk', h.n, h.cut]
 exact ⟨odd_mono (by omega) l2 (exc_bd fun i hi => by have := hf.rg i hi; omega).1 (exc_le h.lo) hf.c0 hf.c1,
  odd_mono (by omega) l1 (exc_bd fun i hi => by have := ht.rg i (by rw [h.n]; exact hi); omega).1 (exc_le h.hi) hf.c0 hf.c1⟩
structure In3 (x lo hi : Fr) : Prop where
 a : ¬ lt x lo
 b : ¬ lt hi x
theorem tight_in {p t : Pl} (hf : p.Fine) (ht : t.Fine) (h : Tight p t) {k : Nat} (hk : k < p.n) (h0 : ¬ p.lo k = 0) : In3 (t.spanOk k).1 (p.spanOk k).1 (p.spanOk k).2 ∧ In3 (t.spanOk k).2 (p.spanOk k).1 (p.spanOk k).2 := by
 have hk' : k < t.n := by rw [h.n]; exact hk
 have h0' : ¬ t.lo k = 0 := by have := hf.rg k hk; have := h.lo k hk; omega
 have ⟨a, b⟩ := tight_lo hf ht h hk h0
 have c := Pl.span_le ht hk' h0'
 have ⟨s1, s2⟩ := Pl.span_bd hf hk h0
 have ⟨t1, t2⟩ := Pl.span_bd ht hk' h0'
 exact ⟨⟨not_lt.2 a, not_lt.2 (le_trans t1.2.2.1 t2.2.2.1 s2.2.2.1 c b)⟩, ⟨not_lt.2 (le_trans s1.2.2.1 t1.2.2.1 t2.2.2.1 a c), not_lt.2 b⟩⟩
theorem one_le (s : Int) (r : Fr) (hn : 0 ≤ r.n) (hd : 0 < r.d) (hs : 1 ≤ s) : le (shV r s) r ∧ 0 < (shV r s).d := by
 unfold shV
 split
 ·rename_i h; exact ⟨le_of_lt h, by decide⟩
 ·have h := nb_near r s hn hd hs
  exact ⟨h.lr, h.ld⟩
theorem sh_mono {r r' : Fr} {s : Int} (hn : 0 ≤ r.n) (hd : 0 < r.d) (hn' : 0 ≤ r'.n) (hd' : 0 < r'.d) (hs : 1 ≤ s) (h : le r r') : le (shV r s) (shV r' s) := by
 have ⟨a, a2⟩ := one_le s r hn hd hs
 have top : le (shV r s) ⟨1000, 1⟩ := by
  by_cases ht : lt ⟨1000, 1⟩ r
  ·rw [shV_hi ht]; exact Int.le_refl _
  ·exact le_trans (b := r) a2 hd (by decide) a (not_lt.1 ht)
 by_cases ht : lt ⟨1000, 1⟩ r'
 ·rw [shV_hi ht]; exact top
 ·rw [shV_lo ht]
  have g := nb_near r' s hn' hd' hs
  refine g.lo _ a2 ?_ (le_trans a2 hd hd' a h)
  unfold shV
  split
  ·show 1 ≤ s; omega
  ·exact (nb_near r s hn hd hs).lq
theorem sh_small {r : Fr} {s : Int} (hn : 0 ≤ r.n) (hd : 0 < r.d) (hs : 1 ≤ s ∧ s ≤ 100) : smallF (shV r s) := by
 unfold shV
 split
 ·exact ⟨by decide, by decide⟩
 ·rename_i h
  have h := not_lt.1 h
  have h : r.n * 1 ≤ 1000 * r.d := h
  have ⟨⟨b1, b2, b3, b4⟩, _⟩ := nb_bd r s 1000 hn hd hs.1 (by omega)
  exact ⟨⟨⟨b3, by omega⟩, b1, by omega⟩, (nb_red hn hd hs.1).1⟩
theorem In3.sh {x lo hi : Fr} (h : In3 x lo hi) {s : Int} (hs : 1 ≤ s) (xn : 0 ≤ x.n) (xd : 0 < x.d) (ln : 0 ≤ lo.n) (ld : 0 < lo.d) (hn : 0 ≤ hi.n) (hd : 0 < hi.d) : In3 (shV x s) (shV lo s) (shV hi s) :=
 ⟨not_lt.2 (sh_mono ln ld xn xd hs (not_lt.1 h.a)), not_lt.2 (sh_mono xn xd hn hd hs (not_lt.1 h.b))⟩
def saneF (r : Fr) : Prop := (1 ≤ r.d ∧ r.d ≤ 1000000000) ∧ 0 ≤ r.n ∧ r.n ≤ 8000000000
instance (r : Fr) : Decidable (saneF r) := by unfold saneF; infer_instance
theorem odd_sane {own sum cut : Int} (h1 : 1 ≤ own) (h2 : own ≤ 1000000) (h3 : 0 ≤ sum) (h4 : sum ≤ 8000000) (h5 : 0 ≤ cut) (h6 : cut ≤ 500) : saneF (oddV own sum cut) := by
 have m := mul_in (1000 - cut) sum 1000 8000000 (by omega) h3 (by omega) h4
 have ⟨a1, _, a3, a4⟩ := odd_bd h1 h2 h3 (by omega) h5 h6
 have hs := red_spec (a := ⟨max 0 ((1000 - cut) * sum - 1000 * own), 1000 * own⟩) (by show 0 < 1000 * own; omega)
 obtain ⟨s1, s2, s3, s4⟩ := hs
 refine ⟨⟨by omega, a4⟩, a1, ?_⟩
 unfold oddV
 generalize red ⟨max 0 ((1000 - cut) * sum - 1000 * own), 1000 * own⟩ = x at *
 have s3 : x.n * (1000 * own) = max 0 ((1000 - cut) * sum - 1000 * own) * x.d := s3
 have s4 : x.d ≤ 1000 * own := s4
 have hy : 0 ≤ max 0 ((1000 - cut) * sum - 1000 * own) ∧ max 0 ((1000 - cut) * sum - 1000 * own) ≤ 8000000000 := by omega
 generalize max 0 ((1000 - cut) * sum - 1000 * own) = y at *
 refine Int.not_lt.1 fun h => ?_
 have e1 : 8000000000 * (1000 * own) < x.n * (1000 * own) := Int.mul_lt_mul_of_pos_right h (by omega)
 have e2 : y * x.d ≤ 8000000000 * (1000 * own) := Int.mul_le_mul hy.2 s4 (by omega) (by omega)
 omega
theorem Pl.span_sane {p : Pl} (hf : p.Fine) {k : Nat} (hk : k < p.n) (h0 : ¬ p.lo k = 0) : saneF (p.spanOk k).1 ∧ saneF (p.spanOk k).2 := by
 have ⟨hk0, hk1, hk2⟩ := hf.rg k hk
 have hn8 := hf.n8
 have b1 := sumTo_bd (Pl.few_in hf (k := k))
 have b2 := sumTo_bd (Pl.many_in hf (k := k))
 exact ⟨odd_sane (by omega) (by omega) b1.1 (by omega) hf.c0 hf.c1, odd_sane (by omega) (by omega) b2.1 (by omega) hf.c0 hf.c1⟩
end Go.Od
end
section
set_option linter.unusedSimpArgs false
set_option linter.unusedVariables false
set_option linter.defProp false
set_option maxRecDepth 100000
namespace Go.Od
open Go.Proofs
open Go.Sx
def Mk.snoc (M : Mk) (x : Qt) : Mk := ⟨M.run, M.m + 1, fun i => if i = M.m then x else M.q i⟩
theorem none_of_ch {M : Mk} (he : M.err = 0) {k : Nat} {c : Nat → Int} (h : M.chE k c = 0) : sureV M = none := by
 cases hs : sureV M with
 | none => rfl
 | some l => exact (not_both h (sure_ck he hs)).elim
theorem red_cross {a b : Fr} (ha : 0 < a.d) (hb : 0 < b.d) (h : a.n * b.d = b.n * a.d) : red a = red b := by
 have ⟨a1, a2, a3, a4⟩ := red_spec ha
 have ⟨b1, b2, b3, b4⟩ := red_spec hb
 refine red_of ha b1 b2 ?_
 have e : b.d * (a.n * (red b).d) = b.d * ((red b).n * a.d) := by
  have e1 : b.d * (a.n * (red b).d) = (a.n * b.d) * (red b).d := by grind
  have e2 : b.d * ((red b).n * a.d) = ((red b).n * b.d) * a.d := by grind
  rw [e1, e2, h, b3]; grind
 exact Int.eq_of_mul_eq_mul_left (by omega) e
structure Tru (t : Nat → Int) (n : Nat) : Prop where
 n1 : 1 ≤ n
 n5 : n ≤ 5
 t : ∀ i, i < n → 1 ≤ t i ∧ t i ≤ 10
def kn (n : Nat) (t : Nat → Int) (cut : Int) : Pl := ⟨n, t, t, cut⟩
theorem kn_span {n : Nat} {t : Nat → Int} {cut : Int} (k : Nat) : (kn n t cut).spanOk k = (oddV (t k) (sumTo t n) cut, oddV (t k) (sumTo t n) cut) := by
 unfold Pl.spanOk kn
 have e1 : (Pl.mk n t t cut).few k = t := by funext i; unfold Pl.few; simp
 have e2 : (Pl.mk n t t cut).many k = t := by funext i; unfold Pl.many; simp
 rw [e1, e2]
theorem sumTo_ge {u : Nat → Int} : ∀ {n k : Nat}, (∀ i, i < n → 0 ≤ u i) → k < n → u k ≤ sumTo u n
 | 0, _, _, h => by omega
 | n + 1, k, h0, h => by
  simp only [sumTo]
  by_cases e : k = n
  ·subst e
   have := (sumTo_le (u := fun _ => 0) (v := u) (n := k) fun i hi => h0 i (by omega))
   have z : sumTo (fun _ => 0) k = 0 := by
    have : ∀ j, sumTo (fun _ => 0) j = 0 := fun j => by induction j with | zero => rfl | succ j ih => simp only [sumTo]; omega
    exact this k
   omega
  ·have := sumTo_ge (n := n) (k := k) (fun i hi => h0 i (by omega)) (by omega)
   have := h0 n (by omega)
   omega
section
variable {t : Nat → Int} {n : Nat} (h : Tru t n)
include h
theorem Tru.sum {k : Nat} (hk : k < n) : t k ≤ sumTo t n ∧ sumTo t n ≤ 50 := by
 have a := sumTo_ge (u := t) (fun i hi => by have := h.t i hi; omega) hk
 have b := sumTo_bd (u := t) (A := 10) (n := n) fun i hi => by have := h.t i hi; omega
 have := h.n5
 omega
theorem Tru.odd {k : Nat} (hk : k < n) : 0 ≤ (oddV (t k) (sumTo t n) 0).n ∧ (oddV (t k) (sumTo t n) 0).n ≤ 50 ∧ 1 ≤ (oddV (t k) (sumTo t n) 0).d ∧ (oddV (t k) (sumTo t n) 0).d ≤ 10 ∧ (oddV (t k) (sumTo t n) 0).n * t k = (sumTo t n - t k) * (oddV (t k) (sumTo t n) 0).d := by
 have ⟨t1, t2⟩ := h.t k hk
 have ⟨u1, u2⟩ := h.sum hk
 generalize t k = a at *
 generalize sumTo t n = s at *
 unfold oddV
 have e0 : max 0 ((1000 - 0) * s - 1000 * a) = 1000 * (s - a) := by omega
 rw [e0]
 have e1 : red ⟨1000 * (s - a), 1000 * a⟩ = red ⟨s - a, a⟩ := red_cross (by show 0 < 1000 * a; omega) (by show 0 < a; omega) (by show 1000 * (s - a) * a = (s - a) * (1000 * a); grind)
 rw [e1]
 have ⟨s1, s2, s3, s4⟩ := red_spec (a := ⟨s - a, a⟩) (by show 0 < a; omega)
 have s3 : (red ⟨s - a, a⟩).n * a = (s - a) * (red ⟨s - a, a⟩).d := s3
 have s4 : (red ⟨s - a, a⟩).d ≤ a := s4
 generalize red ⟨s - a, a⟩ = x at *
 refine ⟨?_, ?_, by omega, by omega, s3⟩
 ·refine Int.not_lt.1 fun hc => ?_
  have e1 : x.n * a < 0 := Int.mul_neg_of_neg_of_pos hc (by omega)
  have e2 : 0 ≤ (s - a) * x.d := Int.mul_nonneg (by omega) (by omega)
  omega
 ·refine Int.not_lt.1 fun hc => ?_
  have e1 : 50 * a < x.n * a := Int.mul_lt_mul_of_pos_right hc (by omega)
  have e2 : (s - a) * x.d ≤ 50 * a := Int.mul_le_mul (by omega) s4 (by omega) (by omega)
  omega
end
def ktQ (t : Nat → Int) (n : Nat) (i : Nat) : Qt := ⟨i, (oddV (t i) (sumTo t n) 0).n, (oddV (t i) (sumTo t n) 0).d, false⟩
def ktM (t : Nat → Int) (n : Nat) : Mk := ⟨n, n, ktQ t n⟩
section
variable {t : Nat → Int} {n : Nat} (h : Tru t n)
include h
theorem Tru.fine : (ktM t n).Fine := by
 have := h.n1
 have := h.n5
 refine ⟨by show 1 ≤ (n : Int); omega, by show (n : Int) ≤ 5; omega, by show n ≤ 12; omega, fun i hi => ?_, fun i hi => ?_⟩
 ·have hi : i < n := hi
  show 0 ≤ (i : Int) ∧ (i : Int) < n
  omega
 ·have ⟨a1, a2, a3, a4, _⟩ := h.odd (k := i) hi
  exact ⟨⟨a1, by show (oddV (t i) (sumTo t n) 0).n ≤ 190; omega⟩, a3, a4⟩
theorem Tru.net_to {w : Nat} (hw : w < n) : ∀ {k : Nat}, k ≤ n → netT (ktQ t n) t w k = -2520 * sumTo t k + (if w < k then 2520 * sumTo t n else 0)
 | 0, _ => by rw [if_neg (by omega)]; rfl
 | k + 1, hk => by
  simp only [netT, sumTo]
  rw [Tru.net_to hw (k := k) (by omega)]
  have ⟨a1, a2, a3, a4, a5⟩ := h.odd (k := k) (by omega)
  have e : wonV (ktQ t n k) (t k) w = if k = w then 2520 * (sumTo t n - t k) else -2520 * t k := by
   unfold wonV wonX ktQ
   simp only [Bool.false_eq_true, if_false]
   by_cases e : k = w
   ·rw [if_pos (by omega), if_pos e]
    have hd := div2520 a3 a4
    generalize (2520 : Int).tdiv (oddV (t k) (sumTo t n) 0).d = K at *
    generalize oddV (t k) (sumTo t n) 0 = x at *
    have e1 : K * x.n * t k = K * (x.n * t k) := by grind
    rw [e1, a5]
    have e2 : K * ((sumTo t n - t k) * x.d) = (K * x.d) * (sumTo t n - t k) := by grind
    rw [e2, hd]
   ·rw [if_neg (by omega), if_neg e]
  rw [e]
  by_cases e1 : k = w
  ·subst e1
   rw [if_neg (by omega), if_pos rfl, if_pos (by omega)]; omega
  ·rw [if_neg e1]
   by_cases e2 : w < k
   ·rw [if_pos e2, if_pos (by omega)]; omega
   ·rw [if_neg e2, if_neg (by omega)]; omega
theorem Tru.net {w : Nat} (hw : w < n) : netT (ktQ t n) t w n = 0 := by
 rw [h.net_to hw (Nat.le_refl _), if_pos hw]; omega
theorem Tru.allS : allS t n := fun i hi => by have := h.t i hi; omega
theorem Tru.stk : (ktM t n).stk n t = 0 := by
 unfold Mk.stk
 rw [if_pos h.fine.err, if_pos (show n = (ktM t n).m from rfl), if_pos h.allS]
theorem Tru.ckS : (ktM t n).ckS n t = 14 := by
 refine (Mk.ckS_14 h.stk fun hw => ?_).symm
 have h1 := h.n1
 have := hw 0 (by show 0 < ((n : Int)).toNat; omega)
 have this : 0 < netT (ktQ t n) t (0 : Nat) n := this
 rw [h.net (by omega)] at this
 omega
theorem Tru.chE : (ktM t n).chE n t = 0 := by
 have h1 := h.n1
 have ⟨u1, u2⟩ := h.sum (k := 0) (by omega)
 have ⟨t1, t2⟩ := h.t 0 (by omega)
 unfold Mk.chE
 rw [if_pos h.fine.err, if_pos (show (n : Int) = (ktM t n).run from rfl), if_pos ⟨h.allS, by omega, by omega⟩, if_pos]
 intro i hi
 have hi : i < n := hi
 have ⟨a1, a2, a3, a4, a5⟩ := h.odd hi
 show fairQ (ktQ t n i) t (sumTo t n)
 unfold fairQ ktQ
 simp only [Bool.false_eq_true, if_false, Int.toNat_natCast]
 generalize oddV (t i) (sumTo t n) 0 = x at *
 have e1 : t i * (x.d + x.n) = t i * x.d + x.n * t i := by grind
 have e2 : (sumTo t n - t i) * x.d = sumTo t n * x.d - t i * x.d := by grind
 omega
theorem Tru.none : sureV (ktM t n) = none := none_of_ch h.fine.err h.chE
theorem Tru.cut {cut : Int} (hc : 0 ≤ cut ∧ cut ≤ 500) {k : Nat} (hk : k < n) : saneF (oddV (t k) (sumTo t n) cut) ∧ saneF (oddV (t k) (sumTo t n) 0) ∧ ¬ lt (oddV (t k) (sumTo t n) 0) (oddV (t k) (sumTo t n) cut) := by
 have ⟨t1, t2⟩ := h.t k hk
 have ⟨u1, u2⟩ := h.sum hk
 refine ⟨odd_sane t1 (by omega) (by omega) (by omega) hc.1 hc.2, odd_sane t1 (by omega) (by omega) (by omega) (by omega) (by omega), not_lt.2 ?_⟩
 unfold oddV
 rw [red_le (by show 0 < 1000 * t k; omega) (by show 0 < 1000 * t k; omega)]
 show max 0 ((1000 - cut) * sumTo t n - 1000 * t k) * (1000 * t k) ≤ max 0 ((1000 - 0) * sumTo t n - 1000 * t k) * (1000 * t k)
 refine Int.mul_le_mul_of_nonneg_right ?_ (by omega)
 have : (1000 - cut) * sumTo t n ≤ (1000 - 0) * sumTo t n := Int.mul_le_mul_of_nonneg_right (by omega) (by omega)
 omega
end
end Go.Od
end
