/- A part of the proof. -/
import Derived.Test.YtbomildlhnllhaaProg
import Derived.Test.YtbomildlhnllhaaED
section
set_option linter.unusedSimpArgs false
set_option linter.unusedVariables false
namespace Go.Od
open Go.Proofs
structure Fr where
 n : Int
 d : Int
theorem Fr.ext' {a b : Fr} (h1 : a.n = b.n) (h2 : a.d = b.d) : a = b := by cases a; cases b; simp_all
def lt (a b : Fr) : Prop := a.n * b.d < b.n * a.d
instance (a b : Fr) : Decidable (lt a b) := by unfold lt; infer_instance
def le (a b : Fr) : Prop := a.n * b.d ≤ b.n * a.d
theorem not_lt {a b : Fr} : ¬ lt a b ↔ le b a := by unfold lt le; omega
theorem le_of_lt {a b : Fr} (h : lt a b) : le a b := by unfold lt le at *; omega
theorem pos_le {k a b : Int} (hk : 0 < k) (h : k * a ≤ k * b) : a ≤ b := Int.le_of_mul_le_mul_left h hk
theorem pos_lt {k a b : Int} (hk : 0 < k) (h : k * a < k * b) : a < b := Int.lt_of_mul_lt_mul_left h (by omega)
theorem mul_le {k a b : Int} (hk : 0 ≤ k) (h : a ≤ b) : k * a ≤ k * b := Int.mul_le_mul_of_nonneg_left h hk
theorem mul_lt {k a b : Int} (hk : 0 < k) (h : a < b) : k * a < k * b := Int.mul_lt_mul_of_pos_left h hk
theorem le_trans {a b c : Fr} (ha : 0 < a.d) (hb : 0 < b.d) (hc : 0 < c.d) (h1 : le a b) (h2 : le b c) : le a c := by
 unfold le at *
 refine pos_le hb ?_
 have k1 := mul_le (k := c.d) (by omega) h1
 have k2 := mul_le (k := a.d) (by omega) h2
 have e1 : b.d * (a.n * c.d) = c.d * (a.n * b.d) := by grind
 have e2 : c.d * (b.n * a.d) = a.d * (b.n * c.d) := by grind
 have e3 : a.d * (c.n * b.d) = b.d * (c.n * a.d) := by grind
 omega
theorem lt_of_le_lt {a b c : Fr} (ha : 0 < a.d) (hb : 0 < b.d) (hc : 0 < c.d) (h1 : le a b) (h2 : lt b c) : lt a c := by
 unfold lt le at *
 refine pos_lt hb ?_
 have k1 := mul_le (k := c.d) (by omega) h1
 have k2 := mul_lt (k := a.d) ha h2
 have e1 : b.d * (a.n * c.d) = c.d * (a.n * b.d) := by grind
 have e2 : c.d * (b.n * a.d) = a.d * (b.n * c.d) := by grind
 have e3 : a.d * (c.n * b.d) = b.d * (c.n * a.d) := by grind
 omega
structure Uni (lo hi : Fr) : Prop where
 ld : 0 < lo.d
 hd : 0 < hi.d
 one : hi.n * lo.d - lo.n * hi.d = 1
theorem uni_between {lo hi : Fr} (u : Uni lo hi) (x : Fr) (h1 : lt lo x) (h2 : lt x hi) : lo.d + hi.d ≤ x.d := by
 have h := u.one
 have hb := u.ld
 have hd := u.hd
 unfold lt at h1 h2
 have h3 : x.d = lo.d * (hi.n * x.d - x.n * hi.d) + hi.d * (x.n * lo.d - lo.n * x.d) := by grind
 have h4 : lo.d * 1 ≤ lo.d * (hi.n * x.d - x.n * hi.d) := mul_le (by omega) (by omega)
 have h5 : hi.d * 1 ≤ hi.d * (x.n * lo.d - lo.n * x.d) := mul_le (by omega) (by omega)
 omega
def red (a : Fr) : Fr := ⟨a.n.tdiv (Int.gcd a.n a.d), a.d.tdiv (Int.gcd a.n a.d)⟩
theorem red_spec {a : Fr} (h : 0 < a.d) : 0 < (red a).d ∧ Int.gcd (red a).n (red a).d = 1 ∧ (red a).n * a.d = a.n * (red a).d ∧ (red a).d ≤ a.d := by
 have hg : 0 < Int.gcd a.n a.d := Int.gcd_pos_of_ne_zero_right _ (by omega)
 obtain ⟨x, hx⟩ := Int.gcd_dvd_left (a := a.n) (b := a.d)
 obtain ⟨y, hy⟩ := Int.gcd_dvd_right (a := a.n) (b := a.d)
 unfold red
 generalize hG : Int.gcd a.n a.d = g at *
 have hg' : (g : Int) ≠ 0 := by omega
 have e1 : a.n.tdiv g = x := by rw [hx]; exact Int.mul_tdiv_cancel_left _ hg'
 have e2 : a.d.tdiv g = y := by rw [hy]; exact Int.mul_tdiv_cancel_left _ hg'
 simp only [e1, e2]
 have hy0 : 0 < y := by
  refine pos_lt (k := (g : Int)) (by omega) ?_
  rw [← hy]; omega
 refine ⟨hy0, ?_, ?_, ?_⟩
 ·rw [hx, hy, Int.gcd_mul_left] at hG
  have h3 : g * Int.gcd x y = g * 1 := by simpa using hG
  exact Nat.eq_of_mul_eq_mul_left hg h3
 ·rw [hx, hy]; grind
 ·rw [hy]
  have : 1 * y ≤ (g : Int) * y := Int.mul_le_mul_of_nonneg_right (by omega) (by omega)
  omega
theorem cop_dvd {k m n : Int} (h : Int.gcd m k = 1) (hd : k ∣ m * n) : k ∣ n := by
 refine Int.natAbs_dvd_natAbs.1 (Nat.Coprime.dvd_of_dvd_mul_left (k := k.natAbs) (m := m.natAbs) ?_ ?_)
 ·rw [Int.gcd_comm, Int.gcd_eq_natAbs_gcd_natAbs] at h; exact h
 ·rw [← Int.natAbs_mul]; exact Int.natAbs_dvd_natAbs.2 hd
theorem red_unique {a b : Fr} (ha : 0 < a.d) (hb : 0 < b.d) (ga : Int.gcd a.n a.d = 1) (gb : Int.gcd b.n b.d = 1) (h : a.n * b.d = b.n * a.d) : a = b := by
 have h1 : a.d ∣ b.d := by
  have : a.d ∣ a.n * b.d := ⟨b.n, by rw [h]; grind⟩
  exact cop_dvd ga this
 have h2 : b.d ∣ a.d := by
  have : b.d ∣ b.n * a.d := ⟨a.n, by rw [← h]; grind⟩
  exact cop_dvd gb this
 have h3 : a.d = b.d := Int.dvd_antisymm (by omega) (by omega) h1 h2
 refine Fr.ext' ?_ h3
 rw [h3] at h
 exact Int.eq_of_mul_eq_mul_right (by omega) h
end Go.Od
end
section
set_option linter.unusedSimpArgs false
set_option linter.unusedVariables false
namespace Go.Od
open Go.Proofs
structure Near (r : Fr) (Q : Int) (lo hi : Fr) : Prop where
 ld : 0 < lo.d
 hd : 0 < hi.d
 lq : lo.d ≤ Q
 hq : hi.d ≤ Q
 lr : le lo r
 hr : lt r hi
 lo : ∀ x : Fr, 0 < x.d → x.d ≤ Q → le x r → le x lo
 hi : ∀ x : Fr, 0 < x.d → x.d ≤ Q → lt r x → le hi x
theorem tdiv_spec {a b : Int} (ha : 0 ≤ a) (hb : 0 < b) : 0 ≤ a.tdiv b ∧ a.tdiv b * b ≤ a ∧ a < (a.tdiv b + 1) * b := by
 rw [Int.tdiv_eq_ediv_of_nonneg ha]
 have h1 := Int.emod_add_mul_ediv a b
 have h2 := Int.emod_nonneg a (show b ≠ 0 by omega)
 have h3 := Int.emod_lt_of_pos a hb
 have h4 := Int.ediv_nonneg ha (show 0 ≤ b by omega)
 refine ⟨h4, ?_, ?_⟩
 ·rw [Int.mul_comm]; omega
 ·rw [Int.add_mul, Int.mul_comm (a / b)]; omega
def sb (r : Fr) (step : Int) : Nat → Fr → Fr → Fr × Fr
 | 0, lo, hi => (lo, hi)
 | k + 1, lo, hi => if step < lo.d + hi.d then (lo, hi) else if lt r ⟨lo.n + hi.n, lo.d + hi.d⟩ then sb r step k lo ⟨lo.n + hi.n, lo.d + hi.d⟩ else sb r step k ⟨lo.n + hi.n, lo.d + hi.d⟩ hi
structure Cl (r : Fr) (step : Int) (lo hi : Fr) : Prop where
 u : Uni lo hi
 lq : lo.d ≤ step
 hq : hi.d ≤ step
 lr : le lo r
 hr : lt r hi
theorem sb_cl (r : Fr) (step : Int) : ∀ (k : Nat) (lo hi : Fr), Cl r step lo hi → step < lo.d + hi.d + k → Cl r step (sb r step k lo hi).1 (sb r step k lo hi).2 ∧ step < (sb r step k lo hi).1.d + (sb r step k lo hi).2.d
 | 0, lo, hi, h, hs => ⟨h, by simp only [sb]; omega⟩
 | k + 1, lo, hi, h, hs => by
  have h1 := h.u.ld
  have h2 := h.u.hd
  have h3 := h.u.one
  simp only [sb]
  split
  ·rename_i hc; exact ⟨h, hc⟩
  ·rename_i hc
   split
   ·rename_i hl
    refine sb_cl r step k lo _ ⟨⟨h1, by show 0 < lo.d + hi.d; omega, ?_⟩, h.lq, by show lo.d + hi.d ≤ step; omega, h.lr, hl⟩ (by show step < lo.d + (lo.d + hi.d) + k; omega)
    show (lo.n + hi.n) * lo.d - lo.n * (lo.d + hi.d) = 1
    rw [← h3]; grind
   ·rename_i hl
    refine sb_cl r step k _ hi ⟨⟨by show 0 < lo.d + hi.d; omega, h2, ?_⟩, by show lo.d + hi.d ≤ step; omega, h.hq, not_lt.1 hl, h.hr⟩ (by show step < lo.d + hi.d + hi.d + k; omega)
    show hi.n * (lo.d + hi.d) - (lo.n + hi.n) * hi.d = 1
    rw [← h3]; grind
theorem cl_near {r : Fr} {step : Int} {lo hi : Fr} (hd : 0 < r.d) (h : Cl r step lo hi) (hs : step < lo.d + hi.d) : Near r step lo hi := by
 refine ⟨h.u.ld, h.u.hd, h.lq, h.hq, h.lr, h.hr, fun x x0 xq xr => ?_, fun x x0 xq xr => ?_⟩
 ·by_cases hx : lt lo x
  ·have := uni_between h.u x hx (lt_of_le_lt x0 hd h.u.hd xr h.hr)
   omega
  ·exact not_lt.1 hx
 ·by_cases hx : lt x hi
  ·have := uni_between h.u x (lt_of_le_lt h.u.ld hd x0 h.lr xr) hx
   omega
  ·exact not_lt.1 hx
theorem red_of {a b : Fr} (ha : 0 < a.d) (hb : 0 < b.d) (gb : Int.gcd b.n b.d = 1) (h : a.n * b.d = b.n * a.d) : red a = b := by
 have ⟨h1, h2, h3, _⟩ := red_spec ha
 refine red_unique h1 hb h2 gb ?_
 refine Int.eq_of_mul_eq_mul_right (show a.d ≠ 0 by omega) ?_
 have e1 : (red a).n * b.d * a.d = (red a).n * a.d * b.d := by grind
 have e2 : b.n * (red a).d * a.d = b.n * a.d * (red a).d := by grind
 rw [e1, e2, h3, ← h]; grind
def start (r : Fr) : Fr × Fr := (⟨r.n.tdiv r.d, 1⟩, ⟨r.n.tdiv r.d + 1, 1⟩)
end Go.Od
end
section
set_option linter.unusedSimpArgs false
set_option linter.unusedVariables false
namespace Go.Od
open Go.Proofs
def up (a b : Int) : Int := (a + b - 1).tdiv b
theorem up_spec {a b : Int} (ha : 0 ≤ a) (hb : 0 < b) : 0 ≤ up a b ∧ a ≤ up a b * b ∧ (up a b - 1) * b < a := by
 have ⟨h1, h2, h3⟩ := tdiv_spec (a := a + b - 1) (b := b) (by omega) hb
 unfold up
 generalize (a + b - 1).tdiv b = u at *
 rw [Int.add_mul] at h3
 rw [Int.sub_mul]
 omega
theorem up_le {a b x : Int} (ha : 0 ≤ a) (hb : 0 < b) (h : a ≤ x * b) : up a b ≤ x := by
 have ⟨h1, h2, h3⟩ := up_spec ha hb
 have h4 : up a b - 1 < x := pos_lt hb (by rw [Int.mul_comm b, Int.mul_comm b]; omega)
 omega
structure Best (lo hi x : Fr) : Prop where
 n0 : 0 ≤ x.n
 d0 : 0 < x.d
 lx : le lo x
 xh : le x hi
 least : ∀ y : Fr, 0 < y.d → le lo y → le y hi → x.d ≤ y.d ∧ x.n ≤ y.n
structure Two (lo hi : Fr) : Prop where
 ln : 0 ≤ lo.n
 ld : 0 < lo.d
 hn : 0 ≤ hi.n
 hd : 0 < hi.d
 le : le lo hi
theorem best_whole {lo hi : Fr} (h : Two lo hi) (hw : up lo.n lo.d * hi.d ≤ hi.n) : Best lo hi ⟨up lo.n lo.d, 1⟩ := by
 have ⟨h1, h2, h3⟩ := up_spec h.ln h.ld
 refine ⟨h1, by show (0 : Int) < 1; omega, ?_, ?_, fun y y0 yl yh => ⟨by show (1 : Int) ≤ y.d; omega, ?_⟩⟩
 ·show lo.n * 1 ≤ up lo.n lo.d * lo.d
  omega
 ·show up lo.n lo.d * hi.d ≤ hi.n * 1
  omega
 ·show up lo.n lo.d ≤ y.n
  unfold Od.le at yl
  have y1 : 0 ≤ y.n * lo.d := Int.le_trans (Int.mul_nonneg h.ln (by omega)) yl
  have h4 : 1 * lo.n ≤ y.d * lo.n := Int.mul_le_mul_of_nonneg_right (by omega) h.ln
  refine up_le h.ln h.ld ?_
  rw [Int.mul_comm y.d] at h4
  omega
def loN (lo hi : Fr) : Fr := ⟨hi.d, hi.n - (up lo.n lo.d - 1) * hi.d⟩
def hiN (lo hi : Fr) : Fr := ⟨lo.d, lo.n - (up lo.n lo.d - 1) * lo.d⟩
def back (lo : Fr) (x : Fr) : Fr := ⟨(up lo.n lo.d - 1) * x.n + x.d, x.n⟩
theorem two_next {lo hi : Fr} (h : Two lo hi) (hw : ¬ up lo.n lo.d * hi.d ≤ hi.n) : Two (loN lo hi) (hiN lo hi) ∧ (loN lo hi).d < hi.d ∧ (hiN lo hi).d ≤ lo.d ∧ 1 ≤ up lo.n lo.d := by
 have ⟨h1, h2, h3⟩ := up_spec h.ln h.ld
 have hl := h.ld
 have hh := h.hd
 have hle := h.le
 have hhn := h.hn
 unfold Od.le at hle
 have hlow : (up lo.n lo.d - 1) * hi.d < hi.n := pos_lt hl (by
  have k1 := mul_lt (k := hi.d) hh h3
  have e1 : lo.d * ((up lo.n lo.d - 1) * hi.d) = hi.d * ((up lo.n lo.d - 1) * lo.d) := by grind
  have e2 : hi.d * lo.n = lo.n * hi.d := Int.mul_comm ..
  have e3 : lo.d * hi.n = hi.n * lo.d := Int.mul_comm ..
  omega)
 have hu1 : 1 ≤ up lo.n lo.d := by
  by_cases hz : up lo.n lo.d = 0
  ·rw [hz, Int.zero_mul] at hw; omega
  ·omega
 refine ⟨⟨by show 0 ≤ hi.d; omega, by show 0 < hi.n - (up lo.n lo.d - 1) * hi.d; omega, by show 0 ≤ lo.d; omega, by show 0 < lo.n - (up lo.n lo.d - 1) * lo.d; omega, ?_⟩, ?_, ?_, hu1⟩
 ·show hi.d * (lo.n - (up lo.n lo.d - 1) * lo.d) ≤ lo.d * (hi.n - (up lo.n lo.d - 1) * hi.d)
  have e1 : hi.d * (lo.n - (up lo.n lo.d - 1) * lo.d) = lo.n * hi.d - (up lo.n lo.d - 1) * lo.d * hi.d := by grind
  have e2 : lo.d * (hi.n - (up lo.n lo.d - 1) * hi.d) = hi.n * lo.d - (up lo.n lo.d - 1) * lo.d * hi.d := by grind
  omega
 ·show hi.n - (up lo.n lo.d - 1) * hi.d < hi.d
  rw [Int.sub_mul]; omega
 ·show lo.n - (up lo.n lo.d - 1) * lo.d ≤ lo.d
  rw [Int.sub_mul]; omega
theorem best_next {lo hi x : Fr} (h : Two lo hi) (hw : ¬ up lo.n lo.d * hi.d ≤ hi.n) (hx : Best (loN lo hi) (hiN lo hi) x) : Best lo hi (back lo x) := by
 have ⟨h1, h2, h3⟩ := up_spec h.ln h.ld
 have ⟨t, _, _, hu1⟩ := two_next h hw
 have hl := h.ld
 have hh := h.hd
 have tl := t.ld
 have th := t.hd
 have xl := hx.lx
 have xh := hx.xh
 have x0 := hx.d0
 have xn0 := hx.n0
 have lst := hx.least
 unfold Od.le at xl xh
 unfold back
 simp only [loN, hiN] at tl th xl xh lst
 generalize up lo.n lo.d = u at *
 have xpos : 0 < x.n := by
  have k1 : 0 < hi.d * x.d := Int.mul_pos hh x0
  by_cases hz : x.n = 0
  ·rw [hz, Int.zero_mul] at xl; omega
  ·omega
 refine ⟨?_, xpos, ?_, ?_, fun y y0 yl yh => ?_⟩
 ·show 0 ≤ (u - 1) * x.n + x.d
  have := Int.mul_nonneg (show 0 ≤ u - 1 by omega) xn0
  omega
 ·show lo.n * x.n ≤ ((u - 1) * x.n + x.d) * lo.d
  have e1 : x.n * (lo.n - (u - 1) * lo.d) = lo.n * x.n - (u - 1) * x.n * lo.d := by grind
  have e2 : ((u - 1) * x.n + x.d) * lo.d = (u - 1) * x.n * lo.d + lo.d * x.d := by grind
  omega
 ·show ((u - 1) * x.n + x.d) * hi.d ≤ hi.n * x.n
  have e1 : x.n * (hi.n - (u - 1) * hi.d) = hi.n * x.n - (u - 1) * x.n * hi.d := by grind
  have e2 : ((u - 1) * x.n + x.d) * hi.d = (u - 1) * x.n * hi.d + hi.d * x.d := by grind
  omega
 ·unfold Od.le at yl yh
  have ypos : 0 < y.n - (u - 1) * y.d := by
   have k1 := mul_lt (k := y.d) y0 h3
   have k2 : (u - 1) * y.d < y.n := pos_lt hl (by
    have e1 : lo.d * ((u - 1) * y.d) = y.d * ((u - 1) * lo.d) := by grind
    have e2 : y.d * lo.n = lo.n * y.d := Int.mul_comm ..
    have e3 : lo.d * y.n = y.n * lo.d := Int.mul_comm ..
    omega)
   omega
  have ⟨q1, q2⟩ := lst ⟨y.d, y.n - (u - 1) * y.d⟩ ypos (by
   show hi.d * (y.n - (u - 1) * y.d) ≤ y.d * (hi.n - (u - 1) * hi.d)
   have e1 : hi.d * (y.n - (u - 1) * y.d) = y.n * hi.d - (u - 1) * y.d * hi.d := by grind
   have e2 : y.d * (hi.n - (u - 1) * hi.d) = hi.n * y.d - (u - 1) * y.d * hi.d := by grind
   omega) (by
   show y.d * (lo.n - (u - 1) * lo.d) ≤ lo.d * (y.n - (u - 1) * y.d)
   have e1 : y.d * (lo.n - (u - 1) * lo.d) = lo.n * y.d - (u - 1) * y.d * lo.d := by grind
   have e2 : lo.d * (y.n - (u - 1) * y.d) = y.n * lo.d - (u - 1) * y.d * lo.d := by grind
   omega)
  have q1 : x.d ≤ y.n - (u - 1) * y.d := q1
  have q2 : x.n ≤ y.d := q2
  refine ⟨q2, ?_⟩
  show (u - 1) * x.n + x.d ≤ y.n
  have k1 := mul_le (k := u - 1) (by omega) q2
  omega
def sim : Nat → Fr → Fr → Fr
 | 0, lo, hi => ⟨up lo.n lo.d, 1⟩
 | k + 1, lo, hi => if up lo.n lo.d * hi.d ≤ hi.n then ⟨up lo.n lo.d, 1⟩ else back lo (sim k (loN lo hi) (hiN lo hi))
theorem sim_best : ∀ (k : Nat) (lo hi : Fr), Two lo hi → lo.d + hi.d ≤ k → Best lo hi (sim k lo hi)
 | 0, lo, hi, h, hk => by have := h.ld; have := h.hd; omega
 | k + 1, lo, hi, h, hk => by
  simp only [sim]
  split
  ·rename_i hw; exact best_whole h hw
  ·rename_i hw
   have ⟨t, a, b, _⟩ := two_next h hw
   exact best_next h hw (sim_best k _ _ t (by omega))
end Go.Od
end
section
set_option linter.unusedSimpArgs false
set_option linter.unusedVariables false
namespace Go.Od
open Go.Proofs
def plus (a b : Fr) : Fr := red ⟨a.n * b.d + b.n * a.d, a.d * b.d⟩
theorem plus_spec {a b : Fr} (ha : 0 < a.d) (hb : 0 < b.d) : 0 < (plus a b).d ∧ (plus a b).n * (a.d * b.d) = (a.n * b.d + b.n * a.d) * (plus a b).d := by
 have h := red_spec (a := ⟨a.n * b.d + b.n * a.d, a.d * b.d⟩) (Int.mul_pos ha hb)
 exact ⟨h.1, h.2.2.1⟩
theorem lt_same {a a' b b' : Fr} (ha : 0 < a.d) (ha' : 0 < a'.d) (hb : 0 < b.d) (hb' : 0 < b'.d) (h1 : a.n * a'.d = a'.n * a.d) (h2 : b.n * b'.d = b'.n * b.d) : lt a b ↔ lt a' b' := by
 unfold lt
 have k : ∀ x y : Int, (a'.d * b'.d) * x < (a'.d * b'.d) * y ↔ x < y := fun x y => ⟨pos_lt (Int.mul_pos ha' hb'), mul_lt (Int.mul_pos ha' hb')⟩
 have k' : ∀ x y : Int, (a.d * b.d) * x < (a.d * b.d) * y ↔ x < y := fun x y => ⟨pos_lt (Int.mul_pos ha hb), mul_lt (Int.mul_pos ha hb)⟩
 rw [← k, ← k' (a'.n * b'.d)]
 have e1 : (a'.d * b'.d) * (a.n * b.d) = (a.d * b.d) * (a'.n * b'.d) := by
  have : (a'.d * b'.d) * (a.n * b.d) = (a.n * a'.d) * (b.d * b'.d) := by grind
  rw [this, h1]; grind
 have e2 : (a'.d * b'.d) * (b.n * a.d) = (a.d * b.d) * (b'.n * a'.d) := by
  have : (a'.d * b'.d) * (b.n * a.d) = (b.n * b'.d) * (a.d * a'.d) := by grind
  rw [this, h2]; grind
 rw [e1, e2]
end Go.Od
end
section
set_option linter.unusedSimpArgs false
set_option linter.unusedVariables false
set_option linter.defProp false
set_option maxRecDepth 100000
set_option maxHeartbeats 16000000
namespace Go.Od
open Go.Proofs
open Go.Sx
theorem follows : Try.prog.follows .mixedOrders = true := by kernel_rfl
theorem ty2 : tyOf Try.prog 2 = some ⟨false, 1, some [.int .i64 0], .int .i64⟩ := by kernel_rfl
theorem ty3 : tyOf Try.prog 3 = some ⟨false, 1, some [.int .i64 0], .int .i64⟩ := by kernel_rfl
theorem ty4 : tyOf Try.prog 4 = some ⟨false, 1, some [.bool false], .bool⟩ := by kernel_rfl
theorem ty5 : tyOf Try.prog 5 = some ⟨false, 1, some [.int .u8 0], .int .u8⟩ := by kernel_rfl
theorem ty23 : tyOf Try.prog 23 = some ⟨true, 2, some [.int .i64 0, .int .i64 0], .struct [(0, 1, some false), (1, 1, some false)]⟩ := by kernel_rfl
theorem pl23 : placesOf Try.prog 23 = some [(0, 1), (1, 1)] := by kernel_rfl
theorem eq23 : eqInfo Try.prog 23 = some [.i .i64, .i .i64] := by kernel_rfl
theorem ty24 : tyOf Try.prog 24 = some ⟨false, 1, some [.int .i64 0], .int .i64⟩ := by kernel_rfl
theorem ty45 : tyOf Try.prog 45 = some ⟨false, 1, some [.slice none 0 0], .slice 2 1⟩ := by kernel_rfl
theorem by2 : bytesOf Try.prog 2 = 8 := by kernel_rfl
theorem TY : True ∧ tyOf Try.prog 2 = some ⟨false, 1, some [.int .i64 0], .int .i64⟩ ∧ tyOf Try.prog 3 = some ⟨false, 1, some [.int .i64 0], .int .i64⟩ ∧ tyOf Try.prog 4 = some ⟨false, 1, some [.bool false], .bool⟩ ∧ tyOf Try.prog 5 = some ⟨false, 1, some [.int .u8 0], .int .u8⟩ ∧ tyOf Try.prog 23 = some ⟨true, 2, some [.int .i64 0, .int .i64 0], .struct [(0, 1, some false), (1, 1, some false)]⟩ ∧ placesOf Try.prog 23 = some [(0, 1), (1, 1)] ∧ tyOf Try.prog 24 = some ⟨false, 1, some [.int .i64 0], .int .i64⟩ ∧ tyOf Try.prog 45 = some ⟨false, 1, some [.slice none 0 0], .slice 2 1⟩ := ⟨trivial, ty2, ty3, ty4, ty5, ty23, pl23, ty24, ty45⟩
def I (n : Int) : SV := .val (.int .i64 n)
def B (b : Bool) : SV := .val (.bool b)
def ints (n : Nat) (u : Nat → Int) : SV := .arr false false n 1 (fun i _ => .val (.int .i64 (u i)))
theorem I_eq {a b : Int} (h : a = b) : SV.val (Value.int IntKind.i64 a) = SV.val (Value.int IntKind.i64 b) := by rw [h]
theorem B_eq {a b : Bool} (h : a = b) : SV.val (Value.bool a) = SV.val (Value.bool b) := by rw [h]
def fsv (a : Fr) : SV := .agg [I a.n, I a.d]
def fstI (b : Nat → Bool) (i : Nat) : Nat → Int
 | 0 => -1
 | k + 1 => if b i = true then i else fstI b (i + 1) k
theorem fstI_lt (b : Nat → Bool) : ∀ (k i : Nat), fstI b i k < 0 ↔ ∀ j, i ≤ j → j < i + k → b j = false
 | 0, i => by simp [fstI]; intro j h1 h2; omega
 | k + 1, i => by
  simp only [fstI]
  split
  ·rename_i h
   constructor
   ·intro h'; omega
   ·intro h'; have := h' i (by omega) (by omega); rw [h] at this; cases this
  ·rename_i h
   rw [fstI_lt b k (i + 1)]
   constructor
   ·intro h' j h1 h2
    by_cases e : j = i
    ·subst e; simpa using h
    ·exact h' j (by omega) (by omega)
   ·intro h' j h1 h2; exact h' j (by omega) (by omega)
def cap2 (lo hi : Int) : SV := .fn (.func 93) [] [.ref false 1 (fun _ => I lo), .ref false 1 (fun _ => I hi)]
theorem c93 (n lo hi : Int) : Contract Try.prog 93 [I n, .ref false 1 (fun _ => I lo), .ref false 1 (fun _ => I hi)] (B (decide (n < lo) || decide (hi < n))) := by
 refine contract_of Try.func93 rfl (by kernel_rfl) follows (by kernel_rfl) _ _ (by rw [Try.ntmps93]; simp) (by simp [OldL, Old, I]) ?_
 unfold I B
 (repeat' (first | with_reducible refine splitVC_d (fun _ => ?_) (fun _ => ?_) | ((with_reducible refine And.intro ?_ ?_); focus (first | exact True.intro | omega | (simp only [InK, ne_eq, and_true, true_and]; omega) | trivial)) | simp -dsimp only [↓RP, RQ, implies_true, forall_const, Nat.reduceMul, reduceIte, reduceCtorEq, Nat.reduceAdd, Nat.reduceEqDiff, Nat.reduceLT, Nat.reduceLeDiff, ty2, ty4, Try.results93]))
 all_goals (refine B_eq ?_; rw [Bool.eq_iff_iff]; simp; omega)
theorem c103 (m : Nat) (u : Nat → Int) (lo hi' : Int) (hm : m ≤ 1000000) : Contract Try.prog 103 [ints m u, cap2 lo hi'] (I (fstI (fun i => decide (u i < lo) || decide (hi' < u i)) 0 m)) := by
 refine contract_of Try.func103 rfl (by kernel_rfl) follows (by kernel_rfl) _ _ (by rw [Try.ntmps103]; simp) (by simp [OldL, Old, ints, cap2, I]) ?_
 unfold ints cap2 I
 (simp -dsimp only [↓RP, RQ, implies_true, forall_const, Nat.reduceMul, reduceIte, reduceCtorEq, Nat.reduceAdd, Nat.reduceEqDiff, Nat.reduceLT, Nat.reduceLeDiff, ty2, ty45, Try.results103])
 refine loop_vc (fun i => i ≤ m ∧ fstI (fun i => decide (u i < lo) || decide (hi' < u i)) 0 m = fstI (fun i => decide (u i < lo) || decide (hi' < u i)) i (m - i)) (fun i => ⟨[(0, .arr false false m 1 (fun i _ => .val (.int .i64 (u i)))), (1, .fn (.func 93) [] [.ref false 1 (fun _ => .val (.int .i64 lo)), .ref false 1 (fun _ => .val (.int .i64 hi'))]), (7, .val (.int .i64 m)), (8, .val (.int .i64 i))], [], 0⟩) (fun i => m - i) 0 ⟨Nat.zero_le _, rfl⟩ (weak [] [] ?_ ?_ ?_) fun i hi => ?_
 ·(simp -dsimp only [↓RP, RQ, implies_true, forall_const, Nat.reduceMul, reduceIte, reduceCtorEq, Nat.reduceAdd, Nat.reduceEqDiff, Nat.reduceLT, Nat.reduceLeDiff]); simp
 ·(simp -dsimp only [↓RP, RQ, implies_true, forall_const, Nat.reduceMul, reduceIte, reduceCtorEq, Nat.reduceAdd, Nat.reduceEqDiff, Nat.reduceLT, Nat.reduceLeDiff])
 ·(simp -dsimp only [↓RP, RQ, implies_true, forall_const, Nat.reduceMul, reduceIte, reduceCtorEq, Nat.reduceAdd, Nat.reduceEqDiff, Nat.reduceLT, Nat.reduceLeDiff])
 obtain ⟨hi, he⟩ := hi
 have e1 : ∀ k, m - i = k + 1 → fstI (fun i => decide (u i < lo) || decide (hi' < u i)) i (m - i) = if (decide (u i < lo) || decide (hi' < u i)) = true then (i : Int) else fstI (fun i => decide (u i < lo) || decide (hi' < u i)) (i + 1) k := fun k hk => by rw [hk]; rfl
 (repeat' (first | with_reducible refine splitVC_d (fun _ => ?_) (fun _ => ?_) | ((with_reducible refine And.intro ?_ ?_); focus (first | exact True.intro | omega | (simp only [InK, ne_eq, and_true, true_and]; omega) | trivial)) | simp -dsimp only [↓RP, RQ, implies_true, forall_const, Nat.reduceMul, reduceIte, reduceCtorEq, Nat.reduceAdd, Nat.reduceEqDiff, Nat.reduceLT, Nat.reduceLeDiff, ty2, ty45, Try.results103]))
 ·rename_i hlt
  have e2 := e1 (m - (i + 1)) (by omega)
  refine callVC (c93 (u i) lo hi') (by (simp -dsimp only [↓RP, RQ, implies_true, forall_const, Nat.reduceMul, reduceIte, reduceCtorEq, Nat.reduceAdd, Nat.reduceEqDiff, Nat.reduceLT, Nat.reduceLeDiff, I]); simp) (by (simp -dsimp only [↓RP, RQ, implies_true, forall_const, Nat.reduceMul, reduceIte, reduceCtorEq, Nat.reduceAdd, Nat.reduceEqDiff, Nat.reduceLT, Nat.reduceLeDiff, B])) ?_
  (repeat' (first | with_reducible refine splitVC_d (fun _ => ?_) (fun _ => ?_) | ((with_reducible refine And.intro ?_ ?_); focus (first | exact True.intro | omega | (simp only [InK, ne_eq, and_true, true_and]; omega) | trivial)) | simp -dsimp only [↓RP, RQ, implies_true, forall_const, Nat.reduceMul, reduceIte, reduceCtorEq, Nat.reduceAdd, Nat.reduceEqDiff, Nat.reduceLT, Nat.reduceLeDiff, B, ty2, ty45, Try.results103]))
  ·rename_i h
   refine I_eq ?_
   rw [he, e2, if_pos (by simp [h])]
  ·rename_i h1 h2
   refine I_eq ?_
   rw [he, e2, if_pos (by simp [h2])]
  ·rename_i h1 h2
   refine ⟨i + 1, ⟨by omega, ?_⟩, by omega, weak [] [] ?_ ?_ ?_⟩
   ·rw [he, e2, if_neg (by simp; omega)]
   ·(simp -dsimp only [↓RP, RQ, implies_true, forall_const, Nat.reduceMul, reduceIte, reduceCtorEq, Nat.reduceAdd, Nat.reduceEqDiff, Nat.reduceLT, Nat.reduceLeDiff]); simp
   ·(simp -dsimp only [↓RP, RQ, implies_true, forall_const, Nat.reduceMul, reduceIte, reduceCtorEq, Nat.reduceAdd, Nat.reduceEqDiff, Nat.reduceLT, Nat.reduceLeDiff])
   ·(simp -dsimp only [↓RP, RQ, implies_true, forall_const, Nat.reduceMul, reduceIte, reduceCtorEq, Nat.reduceAdd, Nat.reduceEqDiff, Nat.reduceLT, Nat.reduceLeDiff])
 ·rename_i hlt
  refine I_eq ?_
  have : m - i = 0 := by omega
  rw [he, this]; rfl
def allIn (u : Nat → Int) (m : Nat) (lo hi : Int) : Prop := ∀ i, i < m → lo ≤ u i ∧ u i ≤ hi
instance (u : Nat → Int) (m : Nat) (lo hi : Int) : Decidable (allIn u m lo hi) := by unfold allIn; infer_instance
theorem allIn_iff (u : Nat → Int) (m : Nat) (lo hi : Int) : fstI (fun i => decide (u i < lo) || decide (hi < u i)) 0 m < 0 ↔ allIn u m lo hi := by
 rw [fstI_lt]
 constructor
 ·intro h i hi'
  have := h i (by omega) (by omega)
  simp at this; omega
 ·intro h j _ hj
  have := h j (by omega)
  simp; omega
theorem c92 (m : Nat) (u : Nat → Int) (lo hi : Int) (hm : m ≤ 1000000) : Contract Try.prog 92 [ints m u, cap2 lo hi] (B (!decide (allIn u m lo hi))) := by
 refine contract_of Try.func92 rfl (by kernel_rfl) follows (by kernel_rfl) _ _ (by rw [Try.ntmps92]; simp) (by simp [OldL, Old, ints, cap2, I]) ?_
 unfold ints cap2 I B
 (simp -dsimp only [↓RP, RQ, implies_true, forall_const, Nat.reduceMul, reduceIte, reduceCtorEq, Nat.reduceAdd, Nat.reduceEqDiff, Nat.reduceLT, Nat.reduceLeDiff, ty2, ty45, Try.results92])
 refine callVC (c103 m u lo hi hm) (by (simp -dsimp only [↓RP, RQ, implies_true, forall_const, Nat.reduceMul, reduceIte, reduceCtorEq, Nat.reduceAdd, Nat.reduceEqDiff, Nat.reduceLT, Nat.reduceLeDiff, ints, cap2, I]); simp) (by (simp -dsimp only [↓RP, RQ, implies_true, forall_const, Nat.reduceMul, reduceIte, reduceCtorEq, Nat.reduceAdd, Nat.reduceEqDiff, Nat.reduceLT, Nat.reduceLeDiff, I])) ?_
 (repeat' (first | with_reducible refine splitVC_d (fun _ => ?_) (fun _ => ?_) | ((with_reducible refine And.intro ?_ ?_); focus (first | exact True.intro | omega | (simp only [InK, ne_eq, and_true, true_and]; omega) | trivial)) | simp -dsimp only [↓RP, RQ, implies_true, forall_const, Nat.reduceMul, reduceIte, reduceCtorEq, Nat.reduceAdd, Nat.reduceEqDiff, Nat.reduceLT, Nat.reduceLeDiff, I, ty2, ty45, Try.results92]))
 refine B_eq ?_
 rw [Bool.eq_iff_iff]; simp [← allIn_iff]
theorem c67 (m : Nat) (u : Nat → Int) (lo hi : Int) (hm : m ≤ 1000000) : Contract Try.prog 67 [I lo, I hi, ints m u] (B (decide (allIn u m lo hi))) := by
 refine contract_of Try.func67 rfl (by kernel_rfl) follows (by kernel_rfl) _ _ (by rw [Try.ntmps67]; simp) (by simp [OldL, Old, ints, I]) ?_
 unfold ints I B
 (simp -dsimp only [↓RP, RQ, implies_true, forall_const, Nat.reduceMul, reduceIte, reduceCtorEq, Nat.reduceAdd, Nat.reduceEqDiff, Nat.reduceLT, Nat.reduceLeDiff, ty2, ty45, Try.results67])
 refine callVC (c92 m u lo hi hm) (by (simp -dsimp only [↓RP, RQ, implies_true, forall_const, Nat.reduceMul, reduceIte, reduceCtorEq, Nat.reduceAdd, Nat.reduceEqDiff, Nat.reduceLT, Nat.reduceLeDiff, ints, cap2, I]); simp) (by (simp -dsimp only [↓RP, RQ, implies_true, forall_const, Nat.reduceMul, reduceIte, reduceCtorEq, Nat.reduceAdd, Nat.reduceEqDiff, Nat.reduceLT, Nat.reduceLeDiff, B])) ?_
 (repeat' (first | with_reducible refine splitVC_d (fun _ => ?_) (fun _ => ?_) | ((with_reducible refine And.intro ?_ ?_); focus (first | exact True.intro | omega | (simp only [InK, ne_eq, and_true, true_and]; omega) | trivial)) | simp -dsimp only [↓RP, RQ, implies_true, forall_const, Nat.reduceMul, reduceIte, reduceCtorEq, Nat.reduceAdd, Nat.reduceEqDiff, Nat.reduceLT, Nat.reduceLeDiff, B, ty2, ty45, Try.results67]))
 simp
theorem c67_1 (x lo hi : Int) : Contract Try.prog 67 [I lo, I hi, ints 1 (fun _ => x)] (B (decide (lo ≤ x ∧ x ≤ hi))) := by
 have := c67 1 (fun _ => x) lo hi (by omega)
 have e : allIn (fun _ => x) 1 lo hi ↔ (lo ≤ x ∧ x ≤ hi) := ⟨fun h => h 0 (by omega), fun h i _ => h⟩
 simpa [e] using this
theorem c67_2 (x y lo hi : Int) : Contract Try.prog 67 [I lo, I hi, ints 2 (fun i => if i = 0 then x else y)] (B (decide ((lo ≤ x ∧ x ≤ hi) ∧ (lo ≤ y ∧ y ≤ hi)))) := by
 have := c67 2 (fun i => if i = 0 then x else y) lo hi (by omega)
 have e : allIn (fun i => if i = 0 then x else y) 2 lo hi ↔ ((lo ≤ x ∧ x ≤ hi) ∧ (lo ≤ y ∧ y ≤ hi)) := ⟨fun h => ⟨by have := h 0 (by omega); simpa using this, by have := h 1 (by omega); simpa using this⟩, fun h i hi => by
  by_cases e : i = 0
  ·subst e; simpa using h.1
  ·simpa [e] using h.2⟩
 simpa [e] using this
theorem lit2 (x y : Int) : ∀ (i : Nat), i < 2 → [SV.val (.int .i64 x), SV.val (.int .i64 y)][i]?.getD SV.top = SV.val (.int .i64 (if i = 0 then x else y))
 | 0, _ => rfl
 | 1, _ => rfl
end Go.Od
end
section
set_option linter.unusedSimpArgs false
set_option linter.unusedVariables false
set_option linter.defProp false
set_option maxRecDepth 100000
set_option maxHeartbeats 16000000
namespace Go.Od
open Go.Proofs
open Go.Sx
theorem c66 (a b : Fr) (h1 : InK .i64 (a.n * b.d)) (h2 : InK .i64 (b.n * a.d)) : Contract Try.prog 66 [fsv a, fsv b] (B (decide (lt a b))) := by
 refine contract_of Try.func66 rfl (by kernel_rfl) follows (by kernel_rfl) _ _ (by rw [Try.ntmps66]; simp) (by simp [OldL, Old, fsv, I]) ?_
 simp only [InK] at h1 h2
 unfold B lt
 conv => arg 4; unfold fsv I
 (repeat' (first | with_reducible refine splitVC_d (fun _ => ?_) (fun _ => ?_) | ((with_reducible refine And.intro ?_ ?_); focus (first | exact True.intro | omega | (simp only [InK, ne_eq, and_true, true_and]; omega) | trivial)) | (simp -dsimp only [↓RP, RQ, implies_true, forall_const, Nat.reduceMul, reduceIte, reduceCtorEq, Nat.reduceAdd, Nat.reduceEqDiff, Nat.reduceLT, Nat.reduceLeDiff, fsv, B, I, by2, RZ, eq_self, TY, Try.results66])))
 all_goals (simp only [InK]; omega)
theorem c49 (a b : Fr) (h1 : InK .i64 (a.n * b.d)) (h2 : InK .i64 (b.n * a.d)) : Contract Try.prog 49 [fsv a, fsv b] (B (decide (lt a b))) := by
 refine contract_of Try.func49 rfl (by kernel_rfl) follows (by kernel_rfl) _ _ (by rw [Try.ntmps49]; simp) (by simp [OldL, Old, fsv, I]) ?_
 simp only [InK] at h1 h2
 unfold B lt
 conv => arg 4; unfold fsv I
 (repeat' (first | with_reducible refine splitVC_d (fun _ => ?_) (fun _ => ?_) | ((with_reducible refine And.intro ?_ ?_); focus (first | exact True.intro | omega | (simp only [InK, ne_eq, and_true, true_and]; omega) | trivial)) | (simp -dsimp only [↓RP, RQ, implies_true, forall_const, Nat.reduceMul, reduceIte, reduceCtorEq, Nat.reduceAdd, Nat.reduceEqDiff, Nat.reduceLT, Nat.reduceLeDiff, fsv, B, I, by2, RZ, eq_self, TY, Try.results49])))
 all_goals (simp only [InK]; omega)
theorem tmN (k m : Nat) : (k : Int).tmod (m : Int) = ((k % m : Nat) : Int) := rfl
theorem c87 (a b : Nat) (ha : a ≤ 4611686018427387904) (hb : b ≤ 4611686018427387904) : Contract Try.prog 87 [I a, I b] (I (Nat.gcd a b)) := by
 refine contract_of Try.func87 rfl (by kernel_rfl) follows (by kernel_rfl) _ _ (by rw [Try.ntmps87]; simp) (by simp [OldL, Old, I]) ?_
 unfold I
 (repeat' (first | with_reducible refine splitVC_d (fun _ => ?_) (fun _ => ?_) | ((with_reducible refine And.intro ?_ ?_); focus (first | exact True.intro | omega | (simp only [InK, ne_eq, and_true, true_and]; omega) | trivial)) | (simp -dsimp only [↓RP, RQ, implies_true, forall_const, Nat.reduceMul, reduceIte, reduceCtorEq, Nat.reduceAdd, Nat.reduceEqDiff, Nat.reduceLT, Nat.reduceLeDiff, fsv, B, I, by2, RZ, eq_self, TY, Try.results87])))
 refine loop_vc (fun (q : Nat × Nat) => Nat.gcd q.1 q.2 = Nat.gcd a b ∧ q.1 ≤ 4611686018427387904 ∧ q.2 ≤ 4611686018427387904) (fun q => ⟨[(0, .val (.int .i64 q.1)), (1, .val (.int .i64 q.2))], [], 0⟩) (fun q => q.2) (a, b) ⟨rfl, ha, hb⟩ (weak [] [] ?_ ?_ ?_) fun q hq => ?_
 ·(simp -dsimp only [↓RP, RQ, implies_true, forall_const, Nat.reduceMul, reduceIte, reduceCtorEq, Nat.reduceAdd, Nat.reduceEqDiff, Nat.reduceLT, Nat.reduceLeDiff]); all_goals simp
 ·(simp -dsimp only [↓RP, RQ, implies_true, forall_const, Nat.reduceMul, reduceIte, reduceCtorEq, Nat.reduceAdd, Nat.reduceEqDiff, Nat.reduceLT, Nat.reduceLeDiff])
 ·(simp -dsimp only [↓RP, RQ, implies_true, forall_const, Nat.reduceMul, reduceIte, reduceCtorEq, Nat.reduceAdd, Nat.reduceEqDiff, Nat.reduceLT, Nat.reduceLeDiff])
 obtain ⟨x, y⟩ := q
 obtain ⟨hg, hx, hy⟩ := hq
 have hg : Nat.gcd x y = Nat.gcd a b := hg
 have hx : x ≤ 4611686018427387904 := hx
 have hy : y ≤ 4611686018427387904 := hy
 by_cases h0 : 0 < y
 ·have hm := tmN x y
  have hlt := Nat.mod_lt x h0
  have hg2 : Nat.gcd y (x % y) = Nat.gcd a b := by rw [Nat.gcd_comm, ← Nat.gcd_rec, Nat.gcd_comm, hg]
  generalize x % y = z at hm hlt hg2
  (repeat' (first | with_reducible refine splitVC_d (fun _ => ?_) (fun _ => ?_) | ((with_reducible refine And.intro ?_ ?_); focus (first | exact True.intro | omega | (simp only [InK, ne_eq, and_true, true_and]; omega) | trivial)) | (simp -dsimp only [↓RP, RQ, implies_true, forall_const, Nat.reduceMul, reduceIte, reduceCtorEq, Nat.reduceAdd, Nat.reduceEqDiff, Nat.reduceLT, Nat.reduceLeDiff, hm, fsv, B, I, by2, RZ, eq_self, TY, Try.results87])))
  all_goals first | (exfalso; omega) | skip
  refine ⟨(y, z), ⟨hg2, hy, by show z ≤ 4611686018427387904; omega⟩, hlt, weak [] [] ?_ ?_ ?_⟩
  ·(simp -dsimp only [↓RP, RQ, implies_true, forall_const, Nat.reduceMul, reduceIte, reduceCtorEq, Nat.reduceAdd, Nat.reduceEqDiff, Nat.reduceLT, Nat.reduceLeDiff]); all_goals simp
  ·(simp -dsimp only [↓RP, RQ, implies_true, forall_const, Nat.reduceMul, reduceIte, reduceCtorEq, Nat.reduceAdd, Nat.reduceEqDiff, Nat.reduceLT, Nat.reduceLeDiff])
  ·(simp -dsimp only [↓RP, RQ, implies_true, forall_const, Nat.reduceMul, reduceIte, reduceCtorEq, Nat.reduceAdd, Nat.reduceEqDiff, Nat.reduceLT, Nat.reduceLeDiff])
 ·have hy0 : y = 0 := by omega
  subst hy0
  rw [Nat.gcd_zero_right] at hg
  rw [← hg]
  (repeat' (first | with_reducible refine splitVC_d (fun _ => ?_) (fun _ => ?_) | ((with_reducible refine And.intro ?_ ?_); focus (first | exact True.intro | omega | (simp only [InK, ne_eq, and_true, true_and]; omega) | trivial)) | (simp -dsimp only [↓RP, RQ, implies_true, forall_const, Nat.reduceMul, reduceIte, reduceCtorEq, Nat.reduceAdd, Nat.reduceEqDiff, Nat.reduceLT, Nat.reduceLeDiff, fsv, B, I, by2, RZ, eq_self, TY, Try.results87])))
  all_goals first | (exfalso; omega) | rfl | skip
theorem c79 (a : Fr) (hd : 0 < a.d) (hd2 : a.d ≤ 4611686018427387904) (h1 : -4611686018427387904 ≤ a.n) (h2 : a.n ≤ 4611686018427387904) : Contract Try.prog 79 [I a.n, I a.d] (fsv (red a)) := by
 refine contract_of Try.func79 rfl (by kernel_rfl) follows (by kernel_rfl) _ _ (by rw [Try.ntmps79]; simp) (by simp [OldL, Old, I]) ?_
 have hg := Int.gcd_pos_of_ne_zero_right a.n (show a.d ≠ 0 by omega)
 have eg : Int.gcd a.n a.d = Nat.gcd a.n.natAbs a.d.natAbs := Int.gcd_eq_natAbs_gcd_natAbs _ _
 have e1 : max a.n (-a.n) = ((a.n.natAbs : Nat) : Int) := by omega
 have e2 : a.d = ((a.d.natAbs : Nat) : Int) := by omega
 have ⟨r1, r2, r3, r4⟩ := red_spec hd
 have rn : -4611686018427387904 ≤ (red a).n ∧ (red a).n ≤ 4611686018427387904 := by
  have h5 : (red a).n = a.n.tdiv (Int.gcd a.n a.d) := rfl
  have h6 := Int.natAbs_tdiv_le_natAbs a.n (Int.gcd a.n a.d)
  rw [← h5] at h6
  omega
 have k := c87 a.n.natAbs a.d.natAbs (by omega) (by omega)
 rw [← e2, ← eg, ← e1] at k
 have q1 : a.n.tdiv (Int.gcd a.n a.d) = (red a).n := rfl
 have q2 : a.d.tdiv (Int.gcd a.n a.d) = (red a).d := rfl
 generalize Int.gcd a.n a.d = g at *
 unfold fsv I
 (repeat' (first | with_reducible refine splitVC_d (fun _ => ?_) (fun _ => ?_) | ((with_reducible refine And.intro ?_ ?_); focus (first | exact True.intro | omega | (simp only [InK, ne_eq, and_true, true_and]; omega) | trivial)) | (simp -dsimp only [↓RP, RQ, implies_true, forall_const, Nat.reduceMul, reduceIte, reduceCtorEq, Nat.reduceAdd, Nat.reduceEqDiff, Nat.reduceLT, Nat.reduceLeDiff, fsv, B, I, by2, RZ, eq_self, TY, Try.results79])))
 all_goals first | (exfalso; omega) | skip
 refine callVC k (by (simp -dsimp only [↓RP, RQ, implies_true, forall_const, Nat.reduceMul, reduceIte, reduceCtorEq, Nat.reduceAdd, Nat.reduceEqDiff, Nat.reduceLT, Nat.reduceLeDiff, I]); all_goals (try simp)) (by (simp -dsimp only [↓RP, RQ, implies_true, forall_const, Nat.reduceMul, reduceIte, reduceCtorEq, Nat.reduceAdd, Nat.reduceEqDiff, Nat.reduceLT, Nat.reduceLeDiff, fsv, I])) ?_
 (repeat' (first | with_reducible refine splitVC_d (fun _ => ?_) (fun _ => ?_) | ((with_reducible refine And.intro ?_ ?_); focus (first | exact True.intro | omega | (simp only [InK, ne_eq, and_true, true_and]; omega) | trivial)) | (simp -dsimp only [↓RP, RQ, implies_true, forall_const, Nat.reduceMul, reduceIte, reduceCtorEq, Nat.reduceAdd, Nat.reduceEqDiff, Nat.reduceLT, Nat.reduceLeDiff, q1, q2, fsv, B, I, by2, RZ, eq_self, TY, Try.results79])))
 all_goals first | (exfalso; omega) | skip
 all_goals (simp only [InK]; omega)
theorem c52 (a : Fr) (hd : 0 < a.d) (hd2 : a.d ≤ 4611686018427387904) (h1 : -4611686018427387904 ≤ a.n) (h2 : a.n ≤ 4611686018427387904) : Contract Try.prog 52 [I a.n, I a.d] (fsv (red a)) := by
 refine contract_of Try.func52 rfl (by kernel_rfl) follows (by kernel_rfl) _ _ (by rw [Try.ntmps52]; simp) (by simp [OldL, Old, I]) ?_
 have hg := Int.gcd_pos_of_ne_zero_right a.n (show a.d ≠ 0 by omega)
 have eg : Int.gcd a.n a.d = Nat.gcd a.n.natAbs a.d.natAbs := Int.gcd_eq_natAbs_gcd_natAbs _ _
 have e1 : max a.n (-a.n) = ((a.n.natAbs : Nat) : Int) := by omega
 have e2 : a.d = ((a.d.natAbs : Nat) : Int) := by omega
 have ⟨r1, r2, r3, r4⟩ := red_spec hd
 have rn : -4611686018427387904 ≤ (red a).n ∧ (red a).n ≤ 4611686018427387904 := by
  have h5 : (red a).n = a.n.tdiv (Int.gcd a.n a.d) := rfl
  have h6 := Int.natAbs_tdiv_le_natAbs a.n (Int.gcd a.n a.d)
  rw [← h5] at h6
  omega
 have q1 : a.n.tdiv (Int.gcd a.n a.d) = (red a).n := rfl
 have q2 : a.d.tdiv (Int.gcd a.n a.d) = (red a).d := rfl
 unfold fsv I
 (repeat' (first | with_reducible refine splitVC_d (fun _ => ?_) (fun _ => ?_) | ((with_reducible refine And.intro ?_ ?_); focus (first | exact True.intro | omega | (simp only [InK, ne_eq, and_true, true_and]; omega) | trivial)) | (simp -dsimp only [↓RP, RQ, implies_true, forall_const, Nat.reduceMul, reduceIte, reduceCtorEq, Nat.reduceAdd, Nat.reduceEqDiff, Nat.reduceLT, Nat.reduceLeDiff, e1, fsv, B, I, by2, RZ, eq_self, TY, Try.results52])))
 all_goals first | (exfalso; omega) | skip
 refine loop_vc (fun (q : Nat × Nat) => Nat.gcd q.1 q.2 = Int.gcd a.n a.d ∧ q.1 ≤ 4611686018427387904 ∧ q.2 ≤ 4611686018427387904) (fun q => ⟨[(0, .val (.int .i64 a.n)), (1, .val (.int .i64 a.d)), (4, .ptr 0 0), (5, .val (.int .i64 q.1)), (6, .val (.int .i64 q.2))], [(0, .cells 23 [.val (.int .i64 0), .val (.int .i64 0)])], 5⟩) (fun q => q.2) (a.n.natAbs, a.d.natAbs) ⟨eg.symm, by show a.n.natAbs ≤ _; omega, by show a.d.natAbs ≤ _; omega⟩ (weak [] [] ?_ ?_ ?_) fun q hq => ?_
 ·(simp -dsimp only [↓RP, RQ, implies_true, forall_const, Nat.reduceMul, reduceIte, reduceCtorEq, Nat.reduceAdd, Nat.reduceEqDiff, Nat.reduceLT, Nat.reduceLeDiff, e1])
  all_goals (try simp)
  all_goals (try omega)
 ·(simp -dsimp only [↓RP, RQ, implies_true, forall_const, Nat.reduceMul, reduceIte, reduceCtorEq, Nat.reduceAdd, Nat.reduceEqDiff, Nat.reduceLT, Nat.reduceLeDiff]); all_goals (try simp)
 ·(simp -dsimp only [↓RP, RQ, implies_true, forall_const, Nat.reduceMul, reduceIte, reduceCtorEq, Nat.reduceAdd, Nat.reduceEqDiff, Nat.reduceLT, Nat.reduceLeDiff]); all_goals simp
 obtain ⟨x, y⟩ := q
 obtain ⟨hgc, hx, hy⟩ := hq
 have hgc : Nat.gcd x y = Int.gcd a.n a.d := hgc
 have hx : x ≤ 4611686018427387904 := hx
 have hy : y ≤ 4611686018427387904 := hy
 by_cases h0 : 0 < y
 ·have hm := tmN x y
  have hlt := Nat.mod_lt x h0
  have hg2 : Nat.gcd y (x % y) = Int.gcd a.n a.d := by rw [Nat.gcd_comm, ← Nat.gcd_rec, Nat.gcd_comm, hgc]
  generalize x % y = z at hm hlt hg2
  (repeat' (first | with_reducible refine splitVC_d (fun _ => ?_) (fun _ => ?_) | ((with_reducible refine And.intro ?_ ?_); focus (first | exact True.intro | omega | (simp only [InK, ne_eq, and_true, true_and]; omega) | trivial)) | (simp -dsimp only [↓RP, RQ, implies_true, forall_const, Nat.reduceMul, reduceIte, reduceCtorEq, Nat.reduceAdd, Nat.reduceEqDiff, Nat.reduceLT, Nat.reduceLeDiff, hm, fsv, B, I, by2, RZ, eq_self, TY, Try.results52])))
  all_goals first | (exfalso; omega) | skip
  refine ⟨(y, z), ⟨hg2, hy, by show z ≤ 4611686018427387904; omega⟩, hlt, weak [] [] ?_ ?_ ?_⟩
  ·(simp -dsimp only [↓RP, RQ, implies_true, forall_const, Nat.reduceMul, reduceIte, reduceCtorEq, Nat.reduceAdd, Nat.reduceEqDiff, Nat.reduceLT, Nat.reduceLeDiff]); all_goals simp
  ·(simp -dsimp only [↓RP, RQ, implies_true, forall_const, Nat.reduceMul, reduceIte, reduceCtorEq, Nat.reduceAdd, Nat.reduceEqDiff, Nat.reduceLT, Nat.reduceLeDiff]); all_goals simp
  ·(simp -dsimp only [↓RP, RQ, implies_true, forall_const, Nat.reduceMul, reduceIte, reduceCtorEq, Nat.reduceAdd, Nat.reduceEqDiff, Nat.reduceLT, Nat.reduceLeDiff]); all_goals simp
 ·have hy0 : y = 0 := by omega
  subst hy0
  rw [Nat.gcd_zero_right] at hgc
  rw [← hgc] at q1 q2 hg
  (repeat' (first | with_reducible refine splitVC_d (fun _ => ?_) (fun _ => ?_) | ((with_reducible refine And.intro ?_ ?_); focus (first | exact True.intro | omega | (simp only [InK, ne_eq, and_true, true_and]; omega) | trivial)) | (simp -dsimp only [↓RP, RQ, implies_true, forall_const, Nat.reduceMul, reduceIte, reduceCtorEq, Nat.reduceAdd, Nat.reduceEqDiff, Nat.reduceLT, Nat.reduceLeDiff, q1, q2, fsv, B, I, by2, RZ, eq_self, TY, Try.results52])))
  all_goals first | (exfalso; omega) | skip
  all_goals (simp only [InK]; omega)
end Go.Od
end
section
set_option linter.unusedSimpArgs false
set_option linter.unusedVariables false
set_option linter.defProp false
set_option maxRecDepth 100000
set_option maxHeartbeats 16000000
namespace Go.Od
open Go.Proofs
open Go.Sx
def isF (a : Fr) : Prop := (1 ≤ a.d ∧ a.d ≤ 1000000) ∧ 0 ≤ a.n ∧ a.n ≤ 1000 * a.d
instance (a : Fr) : Decidable (isF a) := by unfold isF; infer_instance
theorem isF_bd {a : Fr} (h : isF a) : 1 ≤ a.d ∧ a.d ≤ 1000000 ∧ 0 ≤ a.n ∧ a.n ≤ 1000000000 := by unfold isF at h; omega
theorem fsv_old (a : Fr) : Old (fsv a) := by simp [Old, OldL, fsv, I]
theorem c68 (a : Fr) : Contract Try.prog 68 [fsv a] (B (decide (isF a))) := by
 refine contract_of Try.func68 rfl (by kernel_rfl) follows (by kernel_rfl) _ _ (by rw [Try.ntmps68]; simp) (by simp only [OldL, fsv_old, and_self]) ?_
 unfold B isF
 conv => arg 4; unfold fsv I
 (repeat' (first | with_reducible refine splitVC_d (fun _ => ?_) (fun _ => ?_) | ((with_reducible refine And.intro ?_ ?_); focus (first | exact True.intro | omega | (simp only [InK, ne_eq, and_true, true_and]; omega) | trivial)) | (simp -dsimp only [↓RP, RQ, implies_true, forall_const, Nat.reduceMul, reduceIte, reduceCtorEq, Nat.reduceAdd, Nat.reduceEqDiff, Nat.reduceLT, Nat.reduceLeDiff, fsv, B, I, by2, RZ, eq_self, TY, Try.results68])))
 refine callVC (c67_1 a.d 1 1000000) (by (simp -dsimp only [↓RP, RQ, implies_true, forall_const, Nat.reduceMul, reduceIte, reduceCtorEq, Nat.reduceAdd, Nat.reduceEqDiff, Nat.reduceLT, Nat.reduceLeDiff, fsv, Go.Od.ints, I, B]); all_goals (try simp)) (by (simp -dsimp only [↓RP, RQ, implies_true, forall_const, Nat.reduceMul, reduceIte, reduceCtorEq, Nat.reduceAdd, Nat.reduceEqDiff, Nat.reduceLT, Nat.reduceLeDiff, B])) ?_
 (repeat' (first | with_reducible refine splitVC_d (fun _ => ?_) (fun _ => ?_) | ((with_reducible refine And.intro ?_ ?_); focus (first | exact True.intro | omega | (simp only [InK, ne_eq, and_true, true_and]; omega) | trivial)) | (simp -dsimp only [↓RP, RQ, implies_true, forall_const, Nat.reduceMul, reduceIte, reduceCtorEq, Nat.reduceAdd, Nat.reduceEqDiff, Nat.reduceLT, Nat.reduceLeDiff, fsv, B, I, by2, RZ, eq_self, TY, Try.results68])))
 ·refine callVC (c67_1 a.n 0 (1000 * a.d)) (by (simp -dsimp only [↓RP, RQ, implies_true, forall_const, Nat.reduceMul, reduceIte, reduceCtorEq, Nat.reduceAdd, Nat.reduceEqDiff, Nat.reduceLT, Nat.reduceLeDiff, fsv, Go.Od.ints, I, B]); all_goals (try simp)) (by (simp -dsimp only [↓RP, RQ, implies_true, forall_const, Nat.reduceMul, reduceIte, reduceCtorEq, Nat.reduceAdd, Nat.reduceEqDiff, Nat.reduceLT, Nat.reduceLeDiff, B])) ?_
  (repeat' (first | with_reducible refine splitVC_d (fun _ => ?_) (fun _ => ?_) | ((with_reducible refine And.intro ?_ ?_); focus (first | exact True.intro | omega | (simp only [InK, ne_eq, and_true, true_and]; omega) | trivial)) | (simp -dsimp only [↓RP, RQ, implies_true, forall_const, Nat.reduceMul, reduceIte, reduceCtorEq, Nat.reduceAdd, Nat.reduceEqDiff, Nat.reduceLT, Nat.reduceLeDiff, fsv, B, I, by2, RZ, eq_self, TY, Try.results68])))
  all_goals (refine (B_eq ?_ : _); first | exact decide_eq_decide.2 (by constructor <;> (intro h; omega)) | exact (decide_eq_false (by intro h; omega)).symm)
 ·all_goals (refine (B_eq ?_ : _); first | exact decide_eq_decide.2 (by constructor <;> (intro h; omega)) | exact (decide_eq_false (by intro h; omega)).symm)
def askV (a : Fr) (step : Int) : Int := if isF a then (if 1 ≤ step ∧ step ≤ 100 then 0 else 2) else 3
theorem c62 (a : Fr) (step : Int) : Contract Try.prog 62 [fsv a, I step] (I (askV a step)) := by
 refine contract_of Try.func62 rfl (by kernel_rfl) follows (by kernel_rfl) _ _ (by rw [Try.ntmps62]; simp) (by simp only [OldL, fsv_old, and_self, true_and]; simp [Old, I]) ?_
 conv => arg 4; unfold fsv I
 (repeat' (first | with_reducible refine splitVC_d (fun _ => ?_) (fun _ => ?_) | ((with_reducible refine And.intro ?_ ?_); focus (first | exact True.intro | omega | (simp only [InK, ne_eq, and_true, true_and]; omega) | trivial)) | (simp -dsimp only [↓RP, RQ, implies_true, forall_const, Nat.reduceMul, reduceIte, reduceCtorEq, Nat.reduceAdd, Nat.reduceEqDiff, Nat.reduceLT, Nat.reduceLeDiff, fsv, B, I, by2, RZ, eq_self, TY, Try.results62])))
 refine callVC (c68 a) (by (simp -dsimp only [↓RP, RQ, implies_true, forall_const, Nat.reduceMul, reduceIte, reduceCtorEq, Nat.reduceAdd, Nat.reduceEqDiff, Nat.reduceLT, Nat.reduceLeDiff, fsv, Go.Od.ints, I, B]); all_goals (try simp)) (by (simp -dsimp only [↓RP, RQ, implies_true, forall_const, Nat.reduceMul, reduceIte, reduceCtorEq, Nat.reduceAdd, Nat.reduceEqDiff, Nat.reduceLT, Nat.reduceLeDiff, B])) ?_
 (repeat' (first | with_reducible refine splitVC_d (fun _ => ?_) (fun _ => ?_) | ((with_reducible refine And.intro ?_ ?_); focus (first | exact True.intro | omega | (simp only [InK, ne_eq, and_true, true_and]; omega) | trivial)) | (simp -dsimp only [↓RP, RQ, implies_true, forall_const, Nat.reduceMul, reduceIte, reduceCtorEq, Nat.reduceAdd, Nat.reduceEqDiff, Nat.reduceLT, Nat.reduceLeDiff, fsv, B, I, by2, RZ, eq_self, TY, Try.results62])))
 ·rename_i h1
  refine callVC (c67_1 step 1 100) (by (simp -dsimp only [↓RP, RQ, implies_true, forall_const, Nat.reduceMul, reduceIte, reduceCtorEq, Nat.reduceAdd, Nat.reduceEqDiff, Nat.reduceLT, Nat.reduceLeDiff, fsv, Go.Od.ints, I, B]); all_goals (try simp)) (by (simp -dsimp only [↓RP, RQ, implies_true, forall_const, Nat.reduceMul, reduceIte, reduceCtorEq, Nat.reduceAdd, Nat.reduceEqDiff, Nat.reduceLT, Nat.reduceLeDiff, B])) ?_
  (repeat' (first | with_reducible refine splitVC_d (fun _ => ?_) (fun _ => ?_) | ((with_reducible refine And.intro ?_ ?_); focus (first | exact True.intro | omega | (simp only [InK, ne_eq, and_true, true_and]; omega) | trivial)) | (simp -dsimp only [↓RP, RQ, implies_true, forall_const, Nat.reduceMul, reduceIte, reduceCtorEq, Nat.reduceAdd, Nat.reduceEqDiff, Nat.reduceLT, Nat.reduceLeDiff, fsv, B, I, by2, RZ, eq_self, TY, Try.results62])))
  ·rename_i h2; refine I_eq ?_; unfold askV; rw [if_pos h1, if_pos h2]
  ·rename_i h2; refine I_eq ?_; unfold askV; rw [if_pos h1, if_neg h2]
 ·rename_i h1; refine I_eq ?_; unfold askV; rw [if_neg h1]
theorem mul_in (a b A B : Int) (a0 : 0 ≤ a) (b0 : 0 ≤ b) (hA : a ≤ A) (hB : b ≤ B) : 0 ≤ a * b ∧ a * b ≤ A * B := ⟨Int.mul_nonneg a0 b0, Int.mul_le_mul hA hB b0 (by omega)⟩
end Go.Od
end
section
set_option linter.unusedSimpArgs false
set_option linter.unusedVariables false
set_option linter.defProp false
set_option maxRecDepth 100000
set_option maxHeartbeats 16000000
namespace Go.Od
open Go.Proofs
open Go.Sx
structure Sml (a : Fr) : Prop where
 n0 : 0 ≤ a.n
 n1 : a.n ≤ 1000000000
 d0 : 0 < a.d
 d1 : a.d ≤ 1000000000
theorem up_sml {a : Fr} (h : Sml a) : 0 ≤ up a.n a.d ∧ up a.n a.d ≤ a.n :=
 ⟨(up_spec h.n0 h.d0).1, up_le h.n0 h.d0 (by have := mul_le (k := a.n) h.n0 (show (1 : Int) ≤ a.d by have := h.d0; omega); omega)⟩
theorem c69 : ∀ (k : Nat) (lo hi : Fr), Two lo hi → lo.d + hi.d ≤ k → Sml lo → Sml hi → Contract Try.prog 69 [fsv lo, fsv hi] (fsv (sim k lo hi))
 | 0, lo, hi, h, hk, _, _ => by have := h.ld; have := h.hd; omega
 | k + 1, lo, hi, h, hk, sl, sh => by
  refine contract_of Try.func69 rfl (by kernel_rfl) follows (by kernel_rfl) _ _ (by rw [Try.ntmps69]; simp) (by simp only [OldL, fsv_old, and_self]) ?_
  have ⟨u0, u1⟩ := up_sml sl
  have ⟨l0, l1, l2, l3⟩ := sl
  have ⟨h0, h1, h2, h3⟩ := sh
  have m1 := mul_in (up lo.n lo.d) hi.d 1000000000 1000000000 u0 (by omega) (by omega) (by omega)
  have m2 := mul_in (up lo.n lo.d) lo.d 1000000000 1000000000 u0 (by omega) (by omega) (by omega)
  have eu : (lo.n + lo.d - 1).tdiv lo.d = up lo.n lo.d := rfl
  by_cases hw : up lo.n lo.d * hi.d ≤ hi.n
  ·have es : sim (k + 1) lo hi = ⟨up lo.n lo.d, 1⟩ := by simp only [sim]; rw [if_pos hw]
   rw [es]
   unfold fsv I
   (repeat' (first | with_reducible refine splitVC_d (fun _ => ?_) (fun _ => ?_) | ((with_reducible refine And.intro ?_ ?_); focus (first | exact True.intro | omega | (simp only [InK, ne_eq, and_true, true_and]; omega) | trivial)) | (simp -dsimp only [↓RP, RQ, implies_true, forall_const, Nat.reduceMul, reduceIte, reduceCtorEq, Nat.reduceAdd, Nat.reduceEqDiff, Nat.reduceLT, Nat.reduceLeDiff, eu, fsv, B, I, by2, RZ, eq_self, TY, Try.results69])))
   all_goals first | (exfalso; omega) | (simp only [InK]; omega) | skip
  ·have es : sim (k + 1) lo hi = back lo (sim k (loN lo hi) (hiN lo hi)) := by simp only [sim]; rw [if_neg hw]
   have ⟨t, td, td2, tu⟩ := two_next h hw
   have s1 : Sml (loN lo hi) := ⟨t.ln, by show hi.d ≤ _; omega, t.ld, by omega⟩
   have s2 : Sml (hiN lo hi) := ⟨t.hn, by show lo.d ≤ _; omega, t.hd, by omega⟩
   have ih := c69 k (loN lo hi) (hiN lo hi) t (by omega) s1 s2
   have hb := sim_best k (loN lo hi) (hiN lo hi) t (by omega)
   have hb2 := best_next h hw hb
   rw [es]
   have hle := hb2.least lo l2 (by unfold le; omega) h.le
   have q0 := hb.n0
   have q1 := hb.d0
   have m3 : (up lo.n lo.d - 1) * hi.d = up lo.n lo.d * hi.d - hi.d := by rw [Int.sub_mul]; omega
   have m4 : (up lo.n lo.d - 1) * lo.d = up lo.n lo.d * lo.d - lo.d := by rw [Int.sub_mul]; omega
   have e1 : loN lo hi = ⟨hi.d, hi.n - (up lo.n lo.d - 1) * hi.d⟩ := rfl
   have e2 : hiN lo hi = ⟨lo.d, lo.n - (up lo.n lo.d - 1) * lo.d⟩ := rfl
   generalize sim k (loN lo hi) (hiN lo hi) = x at *
   have m5 : 0 ≤ (up lo.n lo.d - 1) * x.n := Int.mul_nonneg (by omega) q0
   have hle2 : (up lo.n lo.d - 1) * x.n + x.d ≤ lo.n := hle.2
   have eb : back lo x = ⟨(up lo.n lo.d - 1) * x.n + x.d, x.n⟩ := rfl
   rw [eb]
   rw [e1, e2] at ih
   have q3 : x.n ≤ lo.d := hle.1
   unfold fsv I
   (repeat' (first | with_reducible refine splitVC_d (fun _ => ?_) (fun _ => ?_) | ((with_reducible refine And.intro ?_ ?_); focus (first | exact True.intro | omega | (simp only [InK, ne_eq, and_true, true_and]; omega) | trivial)) | (simp -dsimp only [↓RP, RQ, implies_true, forall_const, Nat.reduceMul, reduceIte, reduceCtorEq, Nat.reduceAdd, Nat.reduceEqDiff, Nat.reduceLT, Nat.reduceLeDiff, eu, fsv, B, I, by2, RZ, eq_self, TY, Try.results69])))
   all_goals first | (exfalso; omega) | skip
   refine callVC ih (by (simp -dsimp only [↓RP, RQ, implies_true, forall_const, Nat.reduceMul, reduceIte, reduceCtorEq, Nat.reduceAdd, Nat.reduceEqDiff, Nat.reduceLT, Nat.reduceLeDiff, fsv, Go.Od.ints, I, B]); all_goals (try simp)) (by (simp -dsimp only [↓RP, RQ, implies_true, forall_const, Nat.reduceMul, reduceIte, reduceCtorEq, Nat.reduceAdd, Nat.reduceEqDiff, Nat.reduceLT, Nat.reduceLeDiff, fsv, I])) ?_
   (repeat' (first | with_reducible refine splitVC_d (fun _ => ?_) (fun _ => ?_) | ((with_reducible refine And.intro ?_ ?_); focus (first | exact True.intro | omega | (simp only [InK, ne_eq, and_true, true_and]; omega) | trivial)) | (simp -dsimp only [↓RP, RQ, implies_true, forall_const, Nat.reduceMul, reduceIte, reduceCtorEq, Nat.reduceAdd, Nat.reduceEqDiff, Nat.reduceLT, Nat.reduceLeDiff, fsv, B, I, by2, RZ, eq_self, TY, Try.results69])))
   all_goals first | (exfalso; omega) | (simp only [InK]; omega) | skip
def simV (lo hi : Fr) : Fr × Int := if isF lo ∧ isF hi ∧ ¬ lt hi lo then (sim (lo.d + hi.d).toNat lo hi, 0) else (⟨0, 0⟩, 3)
theorem isF_sml {a : Fr} (h : isF a) : Sml a := by
 have := isF_bd h
 exact ⟨by omega, by omega, by omega, by omega⟩
theorem two_of {lo hi : Fr} (h1 : isF lo) (h2 : isF hi) (h3 : ¬ lt hi lo) : Two lo hi := by
 have a := isF_bd h1
 have b := isF_bd h2
 exact ⟨by omega, by omega, by omega, by omega, not_lt.1 h3⟩
theorem c23 (lo hi : Fr) : Contract Try.prog 23 [fsv lo, fsv hi] (.tup [fsv (simV lo hi).1, I (simV lo hi).2]) := by
 refine contract_of Try.func23 rfl (by kernel_rfl) follows (by kernel_rfl) _ _ (by rw [Try.ntmps23]; simp) (by simp only [OldL, fsv_old, and_self]) ?_
 conv => arg 4; unfold fsv I
 (repeat' (first | with_reducible refine splitVC_d (fun _ => ?_) (fun _ => ?_) | ((with_reducible refine And.intro ?_ ?_); focus (first | exact True.intro | omega | (simp only [InK, ne_eq, and_true, true_and]; omega) | trivial)) | (simp -dsimp only [↓RP, RQ, implies_true, forall_const, Nat.reduceMul, reduceIte, reduceCtorEq, Nat.reduceAdd, Nat.reduceEqDiff, Nat.reduceLT, Nat.reduceLeDiff, fsv, B, I, by2, RZ, eq_self, TY, Try.results23])))
 refine callVC (c68 lo) (by (simp -dsimp only [↓RP, RQ, implies_true, forall_const, Nat.reduceMul, reduceIte, reduceCtorEq, Nat.reduceAdd, Nat.reduceEqDiff, Nat.reduceLT, Nat.reduceLeDiff, fsv, Go.Od.ints, I, B]); all_goals (try simp)) (by (simp -dsimp only [↓RP, RQ, implies_true, forall_const, Nat.reduceMul, reduceIte, reduceCtorEq, Nat.reduceAdd, Nat.reduceEqDiff, Nat.reduceLT, Nat.reduceLeDiff, B])) ?_
 (repeat' (first | with_reducible refine splitVC_d (fun _ => ?_) (fun _ => ?_) | ((with_reducible refine And.intro ?_ ?_); focus (first | exact True.intro | omega | (simp only [InK, ne_eq, and_true, true_and]; omega) | trivial)) | (simp -dsimp only [↓RP, RQ, implies_true, forall_const, Nat.reduceMul, reduceIte, reduceCtorEq, Nat.reduceAdd, Nat.reduceEqDiff, Nat.reduceLT, Nat.reduceLeDiff, fsv, B, I, by2, RZ, eq_self, TY, Try.results23])))
 rotate_left
 ·rename_i h1
  rw [show simV lo hi = (⟨0, 0⟩, 3) by unfold simV; rw [if_neg (fun h => h1 h.1)]]
  exact ⟨⟨rfl, rfl⟩, rfl⟩
 rename_i h1
 refine callVC (c68 hi) (by (simp -dsimp only [↓RP, RQ, implies_true, forall_const, Nat.reduceMul, reduceIte, reduceCtorEq, Nat.reduceAdd, Nat.reduceEqDiff, Nat.reduceLT, Nat.reduceLeDiff, fsv, Go.Od.ints, I, B]); all_goals (try simp)) (by (simp -dsimp only [↓RP, RQ, implies_true, forall_const, Nat.reduceMul, reduceIte, reduceCtorEq, Nat.reduceAdd, Nat.reduceEqDiff, Nat.reduceLT, Nat.reduceLeDiff, B])) ?_
 (repeat' (first | with_reducible refine splitVC_d (fun _ => ?_) (fun _ => ?_) | ((with_reducible refine And.intro ?_ ?_); focus (first | exact True.intro | omega | (simp only [InK, ne_eq, and_true, true_and]; omega) | trivial)) | (simp -dsimp only [↓RP, RQ, implies_true, forall_const, Nat.reduceMul, reduceIte, reduceCtorEq, Nat.reduceAdd, Nat.reduceEqDiff, Nat.reduceLT, Nat.reduceLeDiff, fsv, B, I, by2, RZ, eq_self, TY, Try.results23])))
 rotate_left
 ·rename_i h2
  rw [show simV lo hi = (⟨0, 0⟩, 3) by unfold simV; rw [if_neg (fun h => h2 h.2.1)]]
  exact ⟨⟨rfl, rfl⟩, rfl⟩
 rename_i h2
 have a := isF_bd h1
 have b := isF_bd h2
 have y1 := mul_in hi.n lo.d 1000000000 1000000 (by omega) (by omega) (by omega) (by omega)
 have y2 := mul_in lo.n hi.d 1000000000 1000000 (by omega) (by omega) (by omega) (by omega)
 refine callVC (c66 hi lo (by simp only [InK]; omega) (by simp only [InK]; omega)) (by (simp -dsimp only [↓RP, RQ, implies_true, forall_const, Nat.reduceMul, reduceIte, reduceCtorEq, Nat.reduceAdd, Nat.reduceEqDiff, Nat.reduceLT, Nat.reduceLeDiff, fsv, Go.Od.ints, I, B]); all_goals (try simp)) (by (simp -dsimp only [↓RP, RQ, implies_true, forall_const, Nat.reduceMul, reduceIte, reduceCtorEq, Nat.reduceAdd, Nat.reduceEqDiff, Nat.reduceLT, Nat.reduceLeDiff, B])) ?_
 (repeat' (first | with_reducible refine splitVC_d (fun _ => ?_) (fun _ => ?_) | ((with_reducible refine And.intro ?_ ?_); focus (first | exact True.intro | omega | (simp only [InK, ne_eq, and_true, true_and]; omega) | trivial)) | (simp -dsimp only [↓RP, RQ, implies_true, forall_const, Nat.reduceMul, reduceIte, reduceCtorEq, Nat.reduceAdd, Nat.reduceEqDiff, Nat.reduceLT, Nat.reduceLeDiff, fsv, B, I, by2, RZ, eq_self, TY, Try.results23])))
 ·rename_i h3
  rw [show simV lo hi = (⟨0, 0⟩, 3) by unfold simV; rw [if_neg (fun h => h.2.2 h3)]]
  exact ⟨⟨rfl, rfl⟩, rfl⟩
 rename_i h3
 have t := two_of h1 h2 h3
 rw [show simV lo hi = (sim (lo.d + hi.d).toNat lo hi, 0) by unfold simV; rw [if_pos ⟨h1, h2, h3⟩]]
 refine callVC (c69 (lo.d + hi.d).toNat lo hi t (by omega) (isF_sml h1) (isF_sml h2)) (by (simp -dsimp only [↓RP, RQ, implies_true, forall_const, Nat.reduceMul, reduceIte, reduceCtorEq, Nat.reduceAdd, Nat.reduceEqDiff, Nat.reduceLT, Nat.reduceLeDiff, fsv, Go.Od.ints, I, B]); all_goals (try simp)) (by (simp -dsimp only [↓RP, RQ, implies_true, forall_const, Nat.reduceMul, reduceIte, reduceCtorEq, Nat.reduceAdd, Nat.reduceEqDiff, Nat.reduceLT, Nat.reduceLeDiff, fsv, I])) ?_
 (repeat' (first | with_reducible refine splitVC_d (fun _ => ?_) (fun _ => ?_) | ((with_reducible refine And.intro ?_ ?_); focus (first | exact True.intro | omega | (simp only [InK, ne_eq, and_true, true_and]; omega) | trivial)) | (simp -dsimp only [↓RP, RQ, implies_true, forall_const, Nat.reduceMul, reduceIte, reduceCtorEq, Nat.reduceAdd, Nat.reduceEqDiff, Nat.reduceLT, Nat.reduceLeDiff, fsv, B, I, by2, RZ, eq_self, TY, Try.results23])))
end Go.Od
end
