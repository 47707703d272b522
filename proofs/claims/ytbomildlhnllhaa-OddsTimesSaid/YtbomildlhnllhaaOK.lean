/- A part of the proof. -/
import Derived.Test.YtbomildlhnllhaaOI
import Derived.Test.YtbomildlhnllhaaOJ
section
set_option linter.unusedSimpArgs false
set_option linter.unusedVariables false
set_option linter.defProp false
set_option maxRecDepth 100000
namespace Go.Od
open Go.Proofs
open Go.Sx
def fracV (a b : Int) : Fr := ⟨a.tmod (1000 * (1 + b.tmod 1000000) + 1), 1 + b.tmod 1000000⟩
theorem frac_isF {a b : Int} (ha : 0 ≤ a) (hb : 0 ≤ b) : isF (fracV a b) := by
  have h1 := Int.tmod_nonneg 1000000 hb
  have h2 := Int.tmod_lt_of_pos b (show (0 : Int) < 1000000 by omega)
  unfold fracV isF
  generalize b.tmod 1000000 = d at *
  have h3 := Int.tmod_nonneg (1000 * (1 + d) + 1) ha
  have h4 := Int.tmod_lt_of_pos a (show (0 : Int) < 1000 * (1 + d) + 1 by omega)
  show (1 ≤ 1 + d ∧ 1 + d ≤ 1000000) ∧ 0 ≤ a.tmod (1000 * (1 + d) + 1) ∧ a.tmod (1000 * (1 + d) + 1) ≤ 1000 * (1 + d)
  omega
theorem red_self {a : Fr} (hd : 0 < a.d) (g : Int.gcd a.n a.d = 1) : red a = a := red_of hd hd g rfl
section
variable {r : Fr} {s : Int} (hn : 0 ≤ r.n) (hd : 0 < r.d) (hs : 1 ≤ s)
include hn hd hs
theorem nb_red : red (nb r s).1 = (nb r s).1 ∧ red (nb r s).2 = (nb r s).2 := by
  have c := (nb_cl r s hn hd hs).1.u
  exact ⟨red_self c.ld (uni_lo c), red_self c.hd (uni_hi c)⟩
theorem nb_more {s' : Int} (h : s ≤ s') : ¬ lt (nb r s').1 (nb r s).1 ∧ ¬ lt (nb r s).2 (nb r s').2 := by
  have a := nb_near r s hn hd hs
  have b := nb_near r s' hn hd (by omega)
  have := a.lq
  have := a.hq
  exact ⟨not_lt.2 (b.lo _ a.ld (by omega) a.lr), not_lt.2 (b.hi _ a.hd (by omega) a.hr)⟩
theorem nb_none {y : Fr} (h1 : lt (nb r s).1 y) (h2 : lt y (nb r s).2) : s < y.d := by
  have ⟨c, c2⟩ := nb_cl r s hn hd hs
  have := uni_between c.u y h1 h2
  omega
theorem nb_uniq {lo hi : Fr} (h : Cl r s lo hi) (h2 : s < lo.d + hi.d) : lo = (nb r s).1 ∧ hi = (nb r s).2 := by
  have ⟨e1, e2⟩ := near_same (cl_near hd h h2) (nb_near r s hn hd hs)
  have c := (nb_cl r s hn hd hs).1.u
  exact ⟨red_unique h.u.ld c.ld (uni_lo h.u) (uni_lo c) e1, red_unique h.u.hd c.hd (uni_hi h.u) (uni_hi c) e2⟩
end
theorem nb_ck {r : Fr} {s : Int} (h : askV r s = 0) : ckV r s (nb r s).1 (nb r s).2 = 0 := by
  have ⟨hF, s1, s2⟩ := ask_iff.1 h
  have ⟨⟨d1, d2⟩, n1, n2⟩ := hF
  have ⟨c, c2⟩ := nb_cl r s n1 (by omega) s1
  have ⟨⟨b1, b2, b3, b4⟩, b5, b6, b7, b8⟩ := nb_bd r s 1000 n1 (by omega) s1 n2
  exact (ckV_0 h ⟨⟨⟨b3, b4⟩, b7, b8⟩, ⟨b1, by omega⟩, by omega, by omega⟩ ⟨not_lt.2 c.lr, c.hr, c.u.one, c2⟩).symm
theorem ck_nb {r : Fr} {s : Int} {lo hi : Fr} (h : askV r s = 0) (h2 : ckV r s lo hi = 0) : lo = (nb r s).1 ∧ hi = (nb r s).2 := by
  have ⟨hF, s1, s2⟩ := ask_iff.1 h
  have ⟨⟨d1, d2⟩, n1, n2⟩ := hF
  unfold ckV at h2
  rw [if_pos h] at h2
  split at h2
  · rename_i h3
    obtain ⟨⟨⟨⟨a1, a2⟩, a3, a4⟩, _⟩, b1, b2, b3, b4⟩ := h3
    exact nb_uniq n1 (by omega) s1 ⟨⟨by omega, by omega, b3⟩, a2, a4, not_lt.1 b1, b2⟩ b4
  · cases h2
def smallF (r : Fr) : Prop := ((1 ≤ r.d ∧ r.d ≤ 100) ∧ 0 ≤ r.n ∧ r.n ≤ 1001 * r.d) ∧ red r = r
instance : DecidableEq Fr := fun a b => if h : a.n = b.n ∧ a.d = b.d then isTrue (Fr.ext' h.1 h.2) else isFalse fun e => h (by subst e; exact ⟨rfl, rfl⟩)
instance (r : Fr) : Decidable (smallF r) := by unfold smallF; infer_instance
theorem nb_small {r : Fr} {s : Int} (h : askV r s = 0) : smallF (nb r s).1 ∧ smallF (nb r s).2 := by
  have ⟨hF, s1, s2⟩ := ask_iff.1 h
  have ⟨⟨d1, d2⟩, n1, n2⟩ := hF
  have ⟨⟨b1, b2, b3, b4⟩, b5, b6, b7, b8⟩ := nb_bd r s 1000 n1 (by omega) s1 n2
  have ⟨r1, r2⟩ := nb_red n1 (show 0 < r.d by omega) s1
  exact ⟨⟨⟨⟨b3, by omega⟩, b1, by omega⟩, r1⟩, ⟨⟨b7, by omega⟩, by omega, by omega⟩, r2⟩
theorem mid_one (r lo hi : Fr) : midV r lo hi = lo ∨ midV r lo hi = hi := by unfold midV; split <;> simp
theorem simV_ok {lo hi : Fr} (h1 : isF lo) (h2 : isF hi) (h3 : ¬ lt hi lo) : (simV lo hi).2 = 0 ∧ Best lo hi (simV lo hi).1 := by
  unfold simV
  rw [if_pos ⟨h1, h2, h3⟩]
  have t := two_of h1 h2 h3
  exact ⟨rfl, sim_best _ lo hi t (by have := t.ld; have := t.hd; omega)⟩
theorem best_isF {lo hi x : Fr} (h1 : isF lo) (h2 : isF hi) (h3 : ¬ lt hi lo) (h : Best lo hi x) : isF x := by
  have t := two_of h1 h2 h3
  have l := (h.least lo t.ld (Int.le_refl _) t.le).1
  have hx : x.n * hi.d ≤ hi.n * x.d := h.xh
  have ⟨⟨a1, a2⟩, a3, a4⟩ := h1
  have ⟨⟨b1, b2⟩, b3, b4⟩ := h2
  have d0 := h.d0
  refine ⟨⟨by omega, by omega⟩, h.n0, ?_⟩
  have e : hi.n * x.d ≤ 1000 * hi.d * x.d := Int.mul_le_mul_of_nonneg_right b4 (by omega)
  have e2 : hi.d * x.n ≤ hi.d * (1000 * x.d) := by
    rw [Int.mul_comm hi.d x.n, show hi.d * (1000 * x.d) = 1000 * hi.d * x.d by grind]; omega
  exact pos_le (by omega) e2
theorem best_less {lo hi x : Fr} (h : Best lo hi x) (hl : 0 ≤ lo.n) (hd : 0 < lo.d) {q : Int} (q1 : 1 ≤ q) (hq : q < x.d) : lt hi ⟨up (lo.n * q) lo.d, q⟩ := by
  have ⟨u0, u1, u2⟩ := up_spec (show 0 ≤ lo.n * q from Int.mul_nonneg hl (by omega)) hd
  refine Classical.byContradiction fun hc => ?_
  have := (h.least ⟨up (lo.n * q) lo.d, q⟩ (by show 0 < q; omega) u1 (not_lt.1 hc)).1
  have : x.d ≤ q := this
  omega
theorem best_same {lo hi x : Fr} (h : Best lo hi x) (hl : 0 ≤ lo.n) (hd : 0 < lo.d) (hhd : 0 < hi.d) : up (lo.n * x.d) lo.d = x.n := by
  have d0 := h.d0
  have hm : 0 ≤ lo.n * x.d := Int.mul_nonneg hl (by omega)
  have ⟨u0, u1, u2⟩ := up_spec hm hd
  have h1 : up (lo.n * x.d) lo.d ≤ x.n := up_le hm hd h.lx
  have h2 : le (⟨up (lo.n * x.d) lo.d, x.d⟩ : Fr) hi := by
    refine le_trans (b := x) d0 d0 hhd ?_ h.xh
    show up (lo.n * x.d) lo.d * x.d ≤ x.n * x.d
    exact Int.mul_le_mul_of_nonneg_right h1 (by omega)
  have := (h.least ⟨up (lo.n * x.d) lo.d, x.d⟩ d0 u1 h2).2
  have : x.n ≤ up (lo.n * x.d) lo.d := this
  omega
theorem nb_own {x : Fr} (hn : 0 ≤ x.n) (hd : 0 < x.d) (g : Int.gcd x.n x.d = 1) : (nb x x.d).1 = x := by
  have h := nb_near x x.d hn hd (by omega)
  have c := (nb_cl x x.d hn hd (by omega)).1.u
  have a : le x (nb x x.d).1 := h.lo x hd (Int.le_refl _) (Int.le_refl _)
  have b := h.lr
  unfold le at a b
  exact red_unique c.ld hd (uni_lo c) g (by omega)
theorem best_lo {lo hi x : Fr} (h : Best lo hi x) (hld : 0 < lo.d) : Best x hi x :=
  ⟨h.n0, h.d0, Int.le_refl _, h.xh, fun y y0 y1 y2 => h.least y y0 (le_trans hld h.d0 y0 h.lx y1) y2⟩
theorem best_hi {lo hi x : Fr} (h : Best lo hi x) (hhd : 0 < hi.d) : Best lo x x :=
  ⟨h.n0, h.d0, h.lx, Int.le_refl _, fun y y0 y1 y2 => h.least y y0 y1 (le_trans y0 h.d0 hhd y2 h.xh)⟩
theorem simV_lo {lo hi : Fr} (h1 : isF lo) (h2 : isF hi) (h3 : ¬ lt hi lo) : simV (simV lo hi).1 hi = ((simV lo hi).1, 0) := by
  have ⟨e, b⟩ := simV_ok h1 h2 h3
  generalize (simV lo hi).1 = x at *
  have hx := best_isF h1 h2 h3 b
  have ⟨e2, b2⟩ := simV_ok hx h2 (not_lt.2 b.xh)
  exact Prod.ext (best_unique b2 (best_lo b (two_of h1 h2 h3).ld)) e2
theorem simV_hi {lo hi : Fr} (h1 : isF lo) (h2 : isF hi) (h3 : ¬ lt hi lo) : simV lo (simV lo hi).1 = ((simV lo hi).1, 0) := by
  have ⟨e, b⟩ := simV_ok h1 h2 h3
  generalize (simV lo hi).1 = x at *
  have hx := best_isF h1 h2 h3 b
  have ⟨e2, b2⟩ := simV_ok h1 hx (not_lt.2 b.lx)
  exact Prod.ext (best_unique b2 (best_hi b (two_of h1 h2 h3).hd)) e2
end Go.Od
end
section
set_option linter.unusedSimpArgs false
set_option linter.unusedVariables false
set_option linter.defProp false
set_option maxRecDepth 100000
namespace Go.Od
open Go.Proofs
open Go.Sx
theorem red_le {a b : Fr} (ha : 0 < a.d) (hb : 0 < b.d) : le (red a) (red b) ↔ le a b := by
  have ⟨a1, a2, a3, a4⟩ := red_spec ha
  have ⟨b1, b2, b3, b4⟩ := red_spec hb
  rw [← not_lt, ← not_lt, lt_same b1 hb a1 ha (by rw [b3]) (by rw [a3])]
theorem sumTo_le {u v : Nat → Int} : ∀ {n : Nat}, (∀ i, i < n → u i ≤ v i) → sumTo u n ≤ sumTo v n
  | 0, _ => Int.le_refl _
  | n + 1, h => by
    simp only [sumTo]
    have := sumTo_le (n := n) fun i hi => h i (by omega)
    have := h n (by omega)
    omega
structure In3 (x lo hi : Fr) : Prop where
  a : ¬ lt x lo
  b : ¬ lt hi x
theorem one_le (s : Int) (r : Fr) (hn : 0 ≤ r.n) (hd : 0 < r.d) (hs : 1 ≤ s) : le (shV r s) r ∧ 0 < (shV r s).d := by
  unfold shV
  split
  · rename_i h; exact ⟨le_of_lt h, by decide⟩
  · have h := nb_near r s hn hd hs
    exact ⟨h.lr, h.ld⟩
theorem sh_mono {r r' : Fr} {s : Int} (hn : 0 ≤ r.n) (hd : 0 < r.d) (hn' : 0 ≤ r'.n) (hd' : 0 < r'.d) (hs : 1 ≤ s) (h : le r r') : le (shV r s) (shV r' s) := by
  have ⟨a, a2⟩ := one_le s r hn hd hs
  have top : le (shV r s) ⟨1000, 1⟩ := by
    by_cases ht : lt ⟨1000, 1⟩ r
    · rw [shV_hi ht]; exact Int.le_refl _
    · exact le_trans (b := r) a2 hd (by decide) a (not_lt.1 ht)
  by_cases ht : lt ⟨1000, 1⟩ r'
  · rw [shV_hi ht]; exact top
  · rw [shV_lo ht]
    have g := nb_near r' s hn' hd' hs
    refine g.lo _ a2 ?_ (le_trans a2 hd hd' a h)
    unfold shV
    split
    · show 1 ≤ s; omega
    · exact (nb_near r s hn hd hs).lq
theorem In3.sh {x lo hi : Fr} (h : In3 x lo hi) {s : Int} (hs : 1 ≤ s) (xn : 0 ≤ x.n) (xd : 0 < x.d) (ln : 0 ≤ lo.n) (ld : 0 < lo.d) (hn : 0 ≤ hi.n) (hd : 0 < hi.d) : In3 (shV x s) (shV lo s) (shV hi s) :=
  ⟨not_lt.2 (sh_mono ln ld xn xd hs (not_lt.1 h.a)), not_lt.2 (sh_mono xn xd hn hd hs (not_lt.1 h.b))⟩
def saneF (r : Fr) : Prop := (1 ≤ r.d ∧ r.d ≤ 1000000000) ∧ 0 ≤ r.n ∧ r.n ≤ 8000000000
instance (r : Fr) : Decidable (saneF r) := by unfold saneF; infer_instance
theorem odd_sane {own sum cut : Int} (h1 : 1 ≤ own) (h2 : own ≤ 1000000) (h3 : 0 ≤ sum) (h4 : sum ≤ 8000000) (h5 : 0 ≤ cut) (h6 : cut ≤ 500) : saneF (oddV own sum cut) := by
  have m := mul_in (1000 - cut) sum 1000 8000000 (by omega) h3 (by omega) h4
  have ⟨a1, _, a3, a4⟩ := odd_bd h1 h2 h3 (by omega) h5 h6
  have hs := red_spec (a := ⟨max 0 ((1000 - cut) * sum - 1000 * own), 1000 * own⟩) (by show 0 < 1000 * own; omega)
  obtain ⟨s1, s2, s3, s4⟩ := hs
  refine ⟨⟨by omega, a4⟩, a1, ?_⟩
  unfold oddV
  generalize red ⟨max 0 ((1000 - cut) * sum - 1000 * own), 1000 * own⟩ = x at *
  have s3 : x.n * (1000 * own) = max 0 ((1000 - cut) * sum - 1000 * own) * x.d := s3
  have s4 : x.d ≤ 1000 * own := s4
  have hy : 0 ≤ max 0 ((1000 - cut) * sum - 1000 * own) ∧ max 0 ((1000 - cut) * sum - 1000 * own) ≤ 8000000000 := by omega
  generalize max 0 ((1000 - cut) * sum - 1000 * own) = y at *
  refine Int.not_lt.1 fun h => ?_
  have e1 : 8000000000 * (1000 * own) < x.n * (1000 * own) := Int.mul_lt_mul_of_pos_right h (by omega)
  have e2 : y * x.d ≤ 8000000000 * (1000 * own) := Int.mul_le_mul hy.2 s4 (by omega) (by omega)
  omega
end Go.Od
end
section
set_option linter.unusedSimpArgs false
set_option linter.unusedVariables false
set_option linter.defProp false
set_option maxRecDepth 100000
namespace Go.Od
open Go.Proofs
open Go.Sx
def Mk.snoc (M : Mk) (x : Qt) : Mk := ⟨M.run, M.m + 1, fun i => if i = M.m then x else M.q i⟩
theorem none_of_ch {M : Mk} (he : M.err = 0) {k : Nat} {c : Nat → Int} (h : M.chE k c = 0) : sureV M = none := by
  cases hs : sureV M with
  | none => rfl
  | some l => exact (not_both h (sure_ck he hs)).elim
theorem red_cross {a b : Fr} (ha : 0 < a.d) (hb : 0 < b.d) (h : a.n * b.d = b.n * a.d) : red a = red b := by
  have ⟨a1, a2, a3, a4⟩ := red_spec ha
  have ⟨b1, b2, b3, b4⟩ := red_spec hb
  refine red_of ha b1 b2 ?_
  have e : b.d * (a.n * (red b).d) = b.d * ((red b).n * a.d) := by
    have e1 : b.d * (a.n * (red b).d) = (a.n * b.d) * (red b).d := by grind
    have e2 : b.d * ((red b).n * a.d) = ((red b).n * b.d) * a.d := by grind
    rw [e1, e2, h, b3]; grind
  exact Int.eq_of_mul_eq_mul_left (by omega) e
theorem odd_times {t own sum cut : Int} (ht : 1 ≤ t) (ho : 1 ≤ own) : oddV (t * own) (t * sum) cut = oddV own sum cut := by
  have h0 : 1 ≤ t * own := by have := Int.mul_le_mul_of_nonneg_left ho (show 0 ≤ t by omega); omega
  unfold oddV
  refine red_cross (by show 0 < 1000 * (t * own); omega) (by show 0 < 1000 * own; omega) ?_
  show max 0 ((1000 - cut) * (t * sum) - 1000 * (t * own)) * (1000 * own) = max 0 ((1000 - cut) * sum - 1000 * own) * (1000 * (t * own))
  have e : (1000 - cut) * (t * sum) - 1000 * (t * own) = t * ((1000 - cut) * sum - 1000 * own) := by grind
  rw [e]
  generalize (1000 - cut) * sum - 1000 * own = x
  by_cases hx : 0 ≤ x
  · have : 0 ≤ t * x := Int.mul_nonneg (by omega) hx
    rw [show max 0 (t * x) = t * x by omega, show max 0 x = x by omega]; grind
  · have : t * x ≤ 0 := Int.mul_nonpos_of_nonneg_of_nonpos (by omega) (by omega)
    rw [show max 0 (t * x) = 0 by omega, show max 0 x = 0 by omega]; grind
theorem sumTo_times {t : Int} {u : Nat → Int} : ∀ {n : Nat}, sumTo (fun i => t * u i) n = t * sumTo u n
  | 0 => by simp [sumTo]
  | n + 1 => by simp only [sumTo]; rw [sumTo_times (n := n)]; grind
def Pl.times (p : Pl) (t : Int) : Pl := ⟨p.n, fun i => t * p.lo i, fun i => t * p.hi i, p.cut⟩
theorem Pl.times_span {p : Pl} {t : Int} (hf : p.Fine) (hu : (p.times t).err = 0) (ht : 1 ≤ t) {k : Nat} (hk : k < p.n) : (p.times t).span k = p.span k := by
  have hn : (p.times t).n = p.n := rfl
  have ⟨a1, a2, a3⟩ := hf.rg k hk
  have k1 : p.ask k = 0 := by unfold Pl.ask; rw [if_pos hf.err, if_neg (by omega)]
  have k2 : (p.times t).ask k = 0 := by unfold Pl.ask; rw [if_pos hu, hn, if_neg (by omega)]
  by_cases h0 : p.lo k = 0
  · rw [Pl.span_20 k1 h0, Pl.span_20 k2 (by show t * p.lo k = 0; rw [h0]; omega)]
  · have h1 : ¬ (p.times t).lo k = 0 := by
      show ¬ t * p.lo k = 0
      have := Int.mul_pos (show 0 < t by omega) (show 0 < p.lo k by omega)
      omega
    rw [Pl.span_0 k1 h0, Pl.span_0 k2 h1]
    unfold Pl.spanOk
    have e1 : (p.times t).few k = fun i => t * p.few k i := by funext i; unfold Pl.few Pl.times; simp only []; split <;> rfl
    have e2 : (p.times t).many k = fun i => t * p.many k i := by funext i; unfold Pl.many Pl.times; simp only []; split <;> rfl
    rw [e1, e2, hn, sumTo_times, sumTo_times]
    show ((oddV (t * p.hi k) _ p.cut, oddV (t * p.lo k) _ p.cut), (0 : Int)) = _
    rw [odd_times ht (by omega), odd_times ht (by omega)]
theorem won_times {t : Int} (q : Qt) (s w : Int) : wonV q (t * s) w = t * wonV q s w := by
  unfold wonV wonX
  split <;> split <;> grind
theorem net_times {t : Int} {q : Nat → Qt} {s : Nat → Int} {w : Int} : ∀ {m : Nat}, netT q (fun i => t * s i) w m = t * netT q s w m
  | 0 => by simp [netT]
  | m + 1 => by simp only [netT]; rw [net_times (m := m), won_times]; grind
def Qt.turn (q : Qt) : Qt := ⟨q.r, q.n, q.d, !q.l⟩
def Mk.turn (M : Mk) : Mk := ⟨M.run, M.m, fun i => (M.q i).turn⟩
theorem won_turn (q : Qt) (s w : Int) : wonV q.turn s w = -wonV q s w := by
  unfold wonV wonX Qt.turn
  cases q.l <;> simp
theorem net_turn {q : Nat → Qt} {s : Nat → Int} {w : Int} : ∀ {m : Nat}, netT (fun i => (q i).turn) s w m = -netT q s w m
  | 0 => rfl
  | m + 1 => by simp only [netT]; rw [net_turn (m := m), won_turn]; omega
theorem Mk.turn_err {M : Mk} (h : M.err = 0) : M.turn.err = 0 := by
  have hf := Mk.fine h
  exact Mk.Fine.err ⟨hf.r1, hf.r5, hf.m12, hf.st, hf.od⟩
theorem red_times {t x : Int} : red ⟨t * x, 2520⟩ = red ⟨t * (red ⟨x, 2520⟩).n, (red ⟨x, 2520⟩).d⟩ := by
  have ⟨s1, s2, s3, s4⟩ := red_spec (a := ⟨x, 2520⟩) (by show (0 : Int) < 2520; omega)
  refine red_cross (by show (0 : Int) < 2520; omega) s1 ?_
  have s3 : (red ⟨x, 2520⟩).n * 2520 = x * (red ⟨x, 2520⟩).d := s3
  show t * x * (red ⟨x, 2520⟩).d = t * (red ⟨x, 2520⟩).n * 2520
  grind
theorem red_neg {x : Int} : red ⟨-x, 2520⟩ = ⟨-(red ⟨x, 2520⟩).n, (red ⟨x, 2520⟩).d⟩ := by
  have ⟨s1, s2, s3, s4⟩ := red_spec (a := ⟨x, 2520⟩) (by show (0 : Int) < 2520; omega)
  refine red_of (by show (0 : Int) < 2520; omega) s1 (by show Int.gcd (-(red ⟨x, 2520⟩).n) (red ⟨x, 2520⟩).d = 1; rw [Int.neg_gcd]; exact s2) ?_
  have s3 : (red ⟨x, 2520⟩).n * 2520 = x * (red ⟨x, 2520⟩).d := s3
  show -x * (red ⟨x, 2520⟩).d = -(red ⟨x, 2520⟩).n * 2520
  grind
theorem red_bd2 {x A : Int} (hx : -A ≤ x ∧ x ≤ A) : -A ≤ (red ⟨x, 2520⟩).n ∧ (red ⟨x, 2520⟩).n ≤ A ∧ 1 ≤ (red ⟨x, 2520⟩).d ∧ (red ⟨x, 2520⟩).d ≤ 2520 := by
  have ⟨s1, s2, s3, s4⟩ := red_spec (a := ⟨x, 2520⟩) (by show (0 : Int) < 2520; omega)
  have s4 : (red ⟨x, 2520⟩).d ≤ 2520 := s4
  have s3 : (red ⟨x, 2520⟩).n * 2520 = x * (red ⟨x, 2520⟩).d := s3
  generalize (red ⟨x, 2520⟩).n = n at *
  generalize (red ⟨x, 2520⟩).d = d at *
  refine ⟨?_, ?_, by omega, s4⟩
  · refine Int.not_lt.1 fun h => ?_
    have e1 : -A * d ≤ x * d := Int.mul_le_mul_of_nonneg_right hx.1 (by omega)
    have e2 : A * d ≤ A * 2520 := Int.mul_le_mul_of_nonneg_left s4 (by omega)
    have e3 : -A * d = -(A * d) := by grind
    omega
  · refine Int.not_lt.1 fun h => ?_
    have e1 : x * d ≤ A * d := Int.mul_le_mul_of_nonneg_right hx.2 (by omega)
    have e2 : A * d ≤ A * 2520 := Int.mul_le_mul_of_nonneg_left s4 (by omega)
    omega
structure Tru (t : Nat → Int) (n : Nat) : Prop where
  n1 : 1 ≤ n
  n5 : n ≤ 5
  t : ∀ i, i < n → 1 ≤ t i ∧ t i ≤ 10
def kn (n : Nat) (t : Nat → Int) (cut : Int) : Pl := ⟨n, t, t, cut⟩
theorem kn_fine {n : Nat} {t : Nat → Int} {cut : Int} (h : Tru t n) (hc : 0 ≤ cut ∧ cut ≤ 500) : (kn n t cut).Fine := by
  have := h.n5
  exact ⟨h.n1, by show n ≤ 8; omega, fun i hi => by have := h.t i hi; show 0 ≤ t i ∧ t i ≤ t i ∧ t i ≤ 1000000; omega, hc.1, hc.2⟩
theorem kn_span {n : Nat} {t : Nat → Int} {cut : Int} (k : Nat) : (kn n t cut).spanOk k = (oddV (t k) (sumTo t n) cut, oddV (t k) (sumTo t n) cut) := by
  unfold Pl.spanOk kn
  have e1 : (Pl.mk n t t cut).few k = t := by funext i; unfold Pl.few; simp
  have e2 : (Pl.mk n t t cut).many k = t := by funext i; unfold Pl.many; simp
  rw [e1, e2]
theorem sumTo_ge {u : Nat → Int} : ∀ {n k : Nat}, (∀ i, i < n → 0 ≤ u i) → k < n → u k ≤ sumTo u n
  | 0, _, _, h => by omega
  | n + 1, k, h0, h => by
    simp only [sumTo]
    by_cases e : k = n
    · subst e
      have := (sumTo_le (u := fun _ => 0) (v := u) (n := k) fun i hi => h0 i (by omega))
      have z : sumTo (fun _ => 0) k = 0 := by
        have : ∀ j, sumTo (fun _ => 0) j = 0 := fun j => by induction j with | zero => rfl | succ j ih => simp only [sumTo]; omega
        exact this k
      omega
    · have := sumTo_ge (n := n) (k := k) (fun i hi => h0 i (by omega)) (by omega)
      have := h0 n (by omega)
      omega
section
variable {t : Nat → Int} {n : Nat} (h : Tru t n)
include h
theorem Tru.sum {k : Nat} (hk : k < n) : t k ≤ sumTo t n ∧ sumTo t n ≤ 50 := by
  have a := sumTo_ge (u := t) (fun i hi => by have := h.t i hi; omega) hk
  have b := sumTo_bd (u := t) (A := 10) (n := n) fun i hi => by have := h.t i hi; omega
  have := h.n5
  omega
theorem Tru.odd {k : Nat} (hk : k < n) : 0 ≤ (oddV (t k) (sumTo t n) 0).n ∧ (oddV (t k) (sumTo t n) 0).n ≤ 50 ∧ 1 ≤ (oddV (t k) (sumTo t n) 0).d ∧ (oddV (t k) (sumTo t n) 0).d ≤ 10 ∧ (oddV (t k) (sumTo t n) 0).n * t k = (sumTo t n - t k) * (oddV (t k) (sumTo t n) 0).d := by
  have ⟨t1, t2⟩ := h.t k hk
  have ⟨u1, u2⟩ := h.sum hk
  generalize t k = a at *
  generalize sumTo t n = s at *
  unfold oddV
  have e0 : max 0 ((1000 - 0) * s - 1000 * a) = 1000 * (s - a) := by omega
  rw [e0]
  have e1 : red ⟨1000 * (s - a), 1000 * a⟩ = red ⟨s - a, a⟩ := red_cross (by show 0 < 1000 * a; omega) (by show 0 < a; omega) (by show 1000 * (s - a) * a = (s - a) * (1000 * a); grind)
  rw [e1]
  have ⟨s1, s2, s3, s4⟩ := red_spec (a := ⟨s - a, a⟩) (by show 0 < a; omega)
  have s3 : (red ⟨s - a, a⟩).n * a = (s - a) * (red ⟨s - a, a⟩).d := s3
  have s4 : (red ⟨s - a, a⟩).d ≤ a := s4
  generalize red ⟨s - a, a⟩ = x at *
  refine ⟨?_, ?_, by omega, by omega, s3⟩
  · refine Int.not_lt.1 fun hc => ?_
    have e1 : x.n * a < 0 := Int.mul_neg_of_neg_of_pos hc (by omega)
    have e2 : 0 ≤ (s - a) * x.d := Int.mul_nonneg (by omega) (by omega)
    omega
  · refine Int.not_lt.1 fun hc => ?_
    have e1 : 50 * a < x.n * a := Int.mul_lt_mul_of_pos_right hc (by omega)
    have e2 : (s - a) * x.d ≤ 50 * a := Int.mul_le_mul (by omega) s4 (by omega) (by omega)
    omega
end
def ktQ (t : Nat → Int) (n : Nat) (i : Nat) : Qt := ⟨i, (oddV (t i) (sumTo t n) 0).n, (oddV (t i) (sumTo t n) 0).d, false⟩
def ktM (t : Nat → Int) (n : Nat) : Mk := ⟨n, n, ktQ t n⟩
section
variable {t : Nat → Int} {n : Nat} (h : Tru t n)
include h
theorem Tru.fine : (ktM t n).Fine := by
  have := h.n1
  have := h.n5
  refine ⟨by show 1 ≤ (n : Int); omega, by show (n : Int) ≤ 5; omega, by show n ≤ 12; omega, fun i hi => ?_, fun i hi => ?_⟩
  · have hi : i < n := hi
    show 0 ≤ (i : Int) ∧ (i : Int) < n
    omega
  · have ⟨a1, a2, a3, a4, _⟩ := h.odd (k := i) hi
    exact ⟨⟨a1, by show (oddV (t i) (sumTo t n) 0).n ≤ 190; omega⟩, a3, a4⟩
theorem Tru.net_to {w : Nat} (hw : w < n) : ∀ {k : Nat}, k ≤ n → netT (ktQ t n) t w k = -2520 * sumTo t k + (if w < k then 2520 * sumTo t n else 0)
  | 0, _ => by rw [if_neg (by omega)]; rfl
  | k + 1, hk => by
    simp only [netT, sumTo]
    rw [Tru.net_to hw (k := k) (by omega)]
    have ⟨a1, a2, a3, a4, a5⟩ := h.odd (k := k) (by omega)
    have e : wonV (ktQ t n k) (t k) w = if k = w then 2520 * (sumTo t n - t k) else -2520 * t k := by
      unfold wonV wonX ktQ
      simp only [Bool.false_eq_true, if_false]
      by_cases e : k = w
      · rw [if_pos (by omega), if_pos e]
        have hd := div2520 a3 a4
        generalize (2520 : Int).tdiv (oddV (t k) (sumTo t n) 0).d = K at *
        generalize oddV (t k) (sumTo t n) 0 = x at *
        have e1 : K * x.n * t k = K * (x.n * t k) := by grind
        rw [e1, a5]
        have e2 : K * ((sumTo t n - t k) * x.d) = (K * x.d) * (sumTo t n - t k) := by grind
        rw [e2, hd]
      · rw [if_neg (by omega), if_neg e]
    rw [e]
    by_cases e1 : k = w
    · subst e1
      rw [if_neg (by omega), if_pos rfl, if_pos (by omega)]; omega
    · rw [if_neg e1]
      by_cases e2 : w < k
      · rw [if_pos e2, if_pos (by omega)]; omega
      · rw [if_neg e2, if_neg (by omega)]; omega
theorem Tru.net {w : Nat} (hw : w < n) : netT (ktQ t n) t w n = 0 := by
  rw [h.net_to hw (Nat.le_refl _), if_pos hw]; omega
theorem Tru.allS : allS t n := fun i hi => by have := h.t i hi; omega
theorem Tru.stk : (ktM t n).stk n t = 0 := by
  unfold Mk.stk
  rw [if_pos h.fine.err, if_pos (show n = (ktM t n).m from rfl), if_pos h.allS]
theorem Tru.netV {w : Nat} (hw : w < n) : (ktM t n).net n t w = (⟨0, 1⟩, 0) := by
  rw [Mk.net_0 h.stk (by show ¬ ((w : Int) < 0 ∨ (n : Int) ≤ w); omega)]
  show (red ⟨netT (ktQ t n) t w n, 2520⟩, (0 : Int)) = _
  rw [h.net hw]
  rfl
theorem Tru.ckS : (ktM t n).ckS n t = 14 := by
  refine (Mk.ckS_14 h.stk fun hw => ?_).symm
  have h1 := h.n1
  have := hw 0 (by show 0 < ((n : Int)).toNat; omega)
  have this : 0 < netT (ktQ t n) t (0 : Nat) n := this
  rw [h.net (by omega)] at this
  omega
theorem Tru.chE : (ktM t n).chE n t = 0 := by
  have h1 := h.n1
  have ⟨u1, u2⟩ := h.sum (k := 0) (by omega)
  have ⟨t1, t2⟩ := h.t 0 (by omega)
  unfold Mk.chE
  rw [if_pos h.fine.err, if_pos (show (n : Int) = (ktM t n).run from rfl), if_pos ⟨h.allS, by omega, by omega⟩, if_pos]
  intro i hi
  have hi : i < n := hi
  have ⟨a1, a2, a3, a4, a5⟩ := h.odd hi
  show fairQ (ktQ t n i) t (sumTo t n)
  unfold fairQ ktQ
  simp only [Bool.false_eq_true, if_false, Int.toNat_natCast]
  generalize oddV (t i) (sumTo t n) 0 = x at *
  have e1 : t i * (x.d + x.n) = t i * x.d + x.n * t i := by grind
  have e2 : (sumTo t n - t i) * x.d = sumTo t n * x.d - t i * x.d := by grind
  omega
theorem Tru.none : sureV (ktM t n) = none := none_of_ch h.fine.err h.chE
theorem Tru.cut {cut : Int} (hc : 0 ≤ cut ∧ cut ≤ 500) {k : Nat} (hk : k < n) : saneF (oddV (t k) (sumTo t n) cut) ∧ saneF (oddV (t k) (sumTo t n) 0) ∧ ¬ lt (oddV (t k) (sumTo t n) 0) (oddV (t k) (sumTo t n) cut) := by
  have ⟨t1, t2⟩ := h.t k hk
  have ⟨u1, u2⟩ := h.sum hk
  refine ⟨odd_sane t1 (by omega) (by omega) (by omega) hc.1 hc.2, odd_sane t1 (by omega) (by omega) (by omega) (by omega) (by omega), not_lt.2 ?_⟩
  unfold oddV
  rw [red_le (by show 0 < 1000 * t k; omega) (by show 0 < 1000 * t k; omega)]
  show max 0 ((1000 - cut) * sumTo t n - 1000 * t k) * (1000 * t k) ≤ max 0 ((1000 - 0) * sumTo t n - 1000 * t k) * (1000 * t k)
  refine Int.mul_le_mul_of_nonneg_right ?_ (by omega)
  have : (1000 - cut) * sumTo t n ≤ (1000 - 0) * sumTo t n := Int.mul_le_mul_of_nonneg_right (by omega) (by omega)
  omega
end
end Go.Od
end
