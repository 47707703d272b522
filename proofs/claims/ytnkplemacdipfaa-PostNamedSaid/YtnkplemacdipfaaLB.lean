/- A part of the proof. -/
import Derived.Test.YtnkplemacdipfaaLA
section
set_option linter.unusedSimpArgs false
set_option linter.unusedVariables false
namespace Go.Po
open Go.Sx
theorem tmod_nat (b : Int) (n : Nat) (h0 : 0 ≤ b) : b.tmod n = ((b.toNat % n : Nat) : Int) := by
  rw [Int.tmod_eq_emod_of_nonneg h0]
  have : b = (b.toNat : Int) := by omega
  conv => lhs; rw [this]
  exact (Int.natCast_emod _ _).symm
def Pool.pen (p : Pool) (b : Int) : Int := b.tmod (Int.tdiv 100000 p.step + 1) * p.step
theorem step_dvd {p : Pool} (a : Int) : (a * p.step).tmod p.step = 0 := Int.mul_tmod_left a p.step
theorem pen_ok (p : Pool) (h : p.err = 0) (k : Nat) (hk : k < p.n) (b : Int) (hb : 0 ≤ b) : p.asked k (p.pen b) = 0 ∧ 0 ≤ p.pen b ∧ p.pen b ≤ 100000 := by
  have hs := (Pool.fine h).step1
  have ht := tdiv_le 100000 p.step (by omega) hs
  have hm0 := Int.tmod_nonneg (Int.tdiv 100000 p.step + 1) hb
  have hm1 := Int.tmod_lt_of_pos b (show 0 < Int.tdiv 100000 p.step + 1 by omega)
  have hm2 : b.tmod (Int.tdiv 100000 p.step + 1) * p.step ≤ Int.tdiv 100000 p.step * p.step := Int.mul_le_mul_of_nonneg_right (by omega) (by omega)
  have hm3 : 0 ≤ b.tmod (Int.tdiv 100000 p.step + 1) * p.step := Int.mul_nonneg hm0 (by omega)
  unfold Pool.pen
  refine ⟨?_, hm3, by omega⟩
  unfold Pool.asked
  rw [if_pos h, if_neg (by omega), if_pos ⟨hm3, by omega, step_dvd _⟩]
theorem byT_truth (p : Pool) (h : p.Fine) (m : Nat) (b : Nat → Int) (hb : ∀ i, i < m → 0 ≤ b i ∧ b i ≤ 255) : p.Truth p.n (p.byT m b) := ⟨rfl, fun i hi => by
  have hr := h.rg i hi
  unfold Pool.byT
  by_cases hm : 0 < m
  · rw [if_pos hm]
    have hbi := hb (i % m) (Nat.mod_lt _ hm)
    have h0 := Int.tmod_nonneg (p.hi i - p.lo i + 1) hbi.1
    have h1 := Int.tmod_lt_of_pos (b (i % m)) (show 0 < p.hi i - p.lo i + 1 by omega)
    omega
  · rw [if_neg hm]; omega⟩
def Pool.lv (p : Pool) (u : Nat → Int) (k : Nat) (d : Int) : Int := p.net (sumTo u p.n) - d * u k
theorem lv_left (p : Pool) (u : Nat → Int) (k : Nat) (d : Int) (ha : p.asked k d = 0) (ht : p.Truth p.n u) : p.leftE p.n u k d = 0 ∧ p.leftV p.n u k d = p.lv u k d ∧ p.leftL p.n u k d = p.lv u k d ∧ p.chE p.n u k d = (if 0 ≤ p.lv u k d then 14 else 0) := by
  have e1 : p.leftE p.n u k d = 0 := by unfold Pool.leftE; rw [if_pos ha]; exact tr_truth ht
  have e2 : p.leftV p.n u k d = p.lv u k d := by unfold Pool.leftV; rw [if_pos e1, Int.toNat_natCast]; rfl
  refine ⟨e1, e2, by unfold Pool.leftL; rw [if_pos e1, e2], by unfold Pool.chE; rw [if_pos e1, e2]⟩
theorem fine_err {p : Pool} (h : ¬ (20 : Int) < p.n ∧ p.err = 0) : p.err = 0 ∧ p.Fine ∧ p.n ≤ 8 ∧ 2 ≤ p.n := ⟨h.2, Pool.fine h.2, (Pool.fine h.2).n8, (Pool.fine h.2).n2⟩
theorem netE_ok (p : Pool) (h : p.err = 0) (u : Nat → Int) (ht : p.Truth p.n u) : p.netE p.n u = 0 ∧ p.netV p.n u = p.net (sumTo u p.n) := by
  have e1 : p.netE p.n u = 0 := by unfold Pool.netE; rw [if_pos h]; exact tr_truth ht
  exact ⟨e1, by unfold Pool.netV; rw [if_pos e1]⟩
end Go.Po
end
section
set_option linter.unusedSimpArgs false
set_option linter.unusedVariables false
namespace Go.Po
open Go.Sx
theorem div_iff (p : Pool) (h : p.Fine) (k : Nat) (hk : k < p.n) (h0 : 0 ≤ p.sLo k 0) (d : Int) (hd0 : 0 ≤ d) (hd1 : d ≤ 100000) (hd : d.tmod p.step = 0) : 0 ≤ p.sLo k d ↔ d ≤ p.div k := by
  rw [safe_iff p h k hk h0 d hd0 hd1, div_eq p h k hk h0]
  have hs := h.step1
  have hb := best_bound p k (p.num k + 1) ((net0_iff p k).1 h0)
  generalize p.bestTo k (p.num k + 1) = b at *
  rw [Int.tmod_eq_emod_of_nonneg hd0] at hd
  rw [Int.tdiv_eq_ediv_of_nonneg hb.1]
  obtain ⟨q, rfl⟩ := Int.dvd_of_emod_eq_zero hd
  have e1 : p.step * q ≤ b ↔ q ≤ b / p.step := by
    rw [Int.le_ediv_iff_mul_le (by omega), Int.mul_comm]
  rw [e1]
  constructor
  · intro H
    rw [Int.mul_comm]; exact Int.mul_le_mul_of_nonneg_right H (by omega)
  · intro H
    rw [Int.mul_comm] at H
    exact Int.le_of_mul_le_mul_right H (by omega)
theorem div_facts (p : Pool) (h : p.Fine) (k : Nat) (hk : k < p.n) (h0 : 0 ≤ p.sLo k 0) : 0 ≤ p.div k ∧ p.div k ≤ 100000 ∧ (p.div k).tmod p.step = 0 := by
  have hs := h.step1
  have hb := best_bound p k (p.num k + 1) ((net0_iff p k).1 h0)
  have ht := tdiv_le _ p.step hb.1 hs
  rw [div_eq p h k hk h0]
  exact ⟨ht.2.2.1, by omega, step_dvd _⟩
theorem neg_same (p : Pool) (h : p.Fine) (j k : Nat) (hj : j < p.n) (hk : k < p.n) : 0 ≤ p.sLo j 0 ↔ 0 ≤ p.sLo k 0 := by
  obtain ⟨a1, a2⟩ := L_ta p h j hj
  obtain ⟨b1, b2⟩ := L_ta p h k hk
  have en : p.num j = p.num k := by unfold Pool.num; rw [← a1, ← a2, ← b1, ← b2]
  rw [net0_iff, net0_iff, en]
  have e : ∀ i, p.netAt j i = p.netAt k i := fun i => by unfold Pool.netAt; rw [← a1, ← b1]
  constructor <;> intro H i hi
  · rw [← e]; exact H i hi
  · rw [e]; exact H i hi
theorem err_fine {p : Pool} (h : p.Fine) : p.err = 0 := by
  unfold Pool.err
  have h1 := h.n2; have h2 := h.n8; have h3 := h.per1; have h4 := h.per2; have h5 := h.pence1; have h6 := h.pence2; have h7 := h.keep1; have h8 := h.keep2; have h9 := h.step1; have h10 := h.step2
  rw [if_neg (by omega), if_neg (by omega), if_pos h.rg]
theorem asked_mul {p : Pool} (h : p.err = 0) (k : Nat) (hk : k < p.n) (d : Int) (h0 : 0 ≤ d) (h1 : d ≤ 100000) (hd : d.tmod p.step = 0) : p.asked k d = 0 := by
  unfold Pool.asked
  rw [if_pos h, if_neg (by omega), if_pos ⟨h0, h1, hd⟩]
theorem board_cases (p : Pool) (h : p.Fine) : (∀ j : Nat, j < p.n → 0 ≤ p.div j ∧ 0 ≤ p.sLo j 0) ∨ ((∃ k : Nat, k < p.n ∧ (∀ j : Nat, j < k → 0 ≤ p.div j) ∧ p.div k < 0) ∧ ∀ j : Nat, j < p.n → p.sLo j 0 < 0 ∧ p.div j < 0) := by
  have h2 := h.n2
  by_cases H : 0 ≤ p.sLo 0 0
  · left
    intro j hj
    have : 0 ≤ p.sLo j 0 := (neg_same p h 0 j (by omega) hj).1 H
    exact ⟨(div_facts p h j hj this).1, this⟩
  · right
    have hall : ∀ j : Nat, j < p.n → p.sLo j 0 < 0 ∧ p.div j < 0 := fun j hj => by
      have : ¬ 0 ≤ p.sLo j 0 := fun e => H ((neg_same p h 0 j (by omega) hj).2 e)
      have h3 : p.sLo j 0 < 0 := by omega
      exact ⟨h3, (div_neg p h j hj).2 h3⟩
    exact ⟨⟨0, by omega, fun j hj => by omega, (hall 0 (by omega)).2⟩, hall⟩
end Go.Po
end
section
set_option linter.unusedSimpArgs false
set_option linter.unusedVariables false
namespace Go.Po
open Go.Sx
theorem foldMax_mono (f g : Nat → Int) : ∀ m, (∀ k, k ≤ m → f k ≤ g k) → foldMax f m ≤ foldMax g m
  | 0, h => h 0 (Nat.le_refl _)
  | m + 1, h => by
    have h1 := foldMax_mono f g m fun k hk => h k (by omega)
    have h2 := h (m + 1) (Nat.le_refl _)
    simp only [foldMax]; omega
theorem foldMin_mono (f g : Nat → Int) : ∀ m, (∀ k, k ≤ m → f k ≤ g k) → foldMin f m ≤ foldMin g m
  | 0, h => h 0 (Nat.le_refl _)
  | m + 1, h => by
    have h1 := foldMin_mono f g m fun k hk => h k (by omega)
    have h2 := h (m + 1) (Nat.le_refl _)
    simp only [foldMin]; omega
theorem sHi_mono (p : Pool) (h : p.Fine) (r : Nat) (hr : r < p.n) (d d' : Int) (hd : d ≤ d') : p.sHi r d' ≤ p.sHi r d := by
  unfold Pool.sHi
  refine foldMax_mono _ _ _ fun k _ => ?_
  unfold Pool.highAt
  have hlo := h.rg r hr
  have : d * max (p.lo r) (p.ta r + k - p.ohi r) ≤ d' * max (p.lo r) (p.ta r + k - p.ohi r) := Int.mul_le_mul_of_nonneg_right hd (by omega)
  rw [Int.toNat_natCast]
  omega
end Go.Po
end
section
set_option linter.unusedSimpArgs false
set_option linter.unusedVariables false
namespace Go.Po
open Go.Sx
def Pool.kp (p : Pool) (c : Int) : Pool := ⟨p.n, p.lo, p.hi, p.per, p.pence, c, p.step⟩
theorem foldMin_add (f : Nat → Int) (c : Int) : ∀ m, foldMin (fun k => f k + c) m = foldMin f m + c
  | 0 => rfl
  | m + 1 => by simp only [foldMin, foldMin_add f c m]; omega
theorem kp_net (p : Pool) (c u : Int) : (p.kp (p.keep - c)).net u = p.net u + c := by
  unfold Pool.net Pool.kp
  simp only
  omega
theorem kp_sLo (p : Pool) (c r d : Int) : (p.kp (p.keep - c)).sLo r d = p.sLo r d + c := by
  unfold Pool.sLo
  rw [← foldMin_add]
  have hn : (p.kp (p.keep - c)).num r = p.num r := rfl
  rw [hn]
  refine foldMin_congr _ _ _ fun k _ => ?_
  have h1 : (p.kp (p.keep - c)).lowAt r d k = (p.kp (p.keep - c)).net (p.ta r + k) - d * min (p.hi r.toNat) (p.ta r + k - p.olo r) := rfl
  have h2 : p.lowAt r d k = p.net (p.ta r + k) - d * min (p.hi r.toNat) (p.ta r + k - p.olo r) := rfl
  rw [h1, h2, kp_net]
  omega
theorem kp_fine (p : Pool) (h : p.Fine) (c : Int) (h0 : 0 ≤ c) (h1 : c ≤ 100000) : (p.kp c).Fine := ⟨h.n2, h.n8, h.per1, h.per2, h.pence1, h.pence2, h0, h1, h.step1, h.step2, h.rg⟩
theorem asked_ok' {p : Pool} {r d : Int} (h : p.asked r d = 0) : 0 ≤ d ∧ d ≤ 100000 ∧ d.tmod p.step = 0 := by
  unfold Pool.asked at h
  split at h
  · split at h
    · omega
    · split at h
      · rename_i h3; exact h3
      · omega
  · omega
theorem kp_asked (p : Pool) (h : p.Fine) (c : Int) (h0 : 0 ≤ c) (h1 : c ≤ 100000) (k : Nat) (hk : k < p.n) (d : Int) (ha : p.asked k d = 0) : (p.kp c).asked k d = 0 := by
  obtain ⟨g1, g2, g3⟩ := asked_ok' ha
  exact asked_mul (err_fine (kp_fine p h c h0 h1)) k hk d g1 g2 g3
end Go.Po
namespace Go.Po
open Go.Sx
def Pool.cl (p : Pool) (T : Nat → Int) : Pool := ⟨p.n, T, T, p.per, p.pence, p.keep, p.step⟩
theorem cl_fine (p : Pool) (h : p.Fine) (T : Nat → Int) (ht : p.Truth p.n T) : (p.cl T).Fine := ⟨h.n2, h.n8, h.per1, h.per2, h.pence1, h.pence2, h.keep1, h.keep2, h.step1, h.step2, fun i hi => by
  have h1 := h.rg i hi
  have h2 := ht.rg i hi
  show 0 ≤ T i ∧ T i ≤ T i ∧ T i ≤ 200
  omega⟩
def Pool.want (p : Pool) (T : Nat → Int) (k : Nat) : Int := if 0 < T k then min 100000 ((p.net (sumTo T p.n)).tdiv (T k)) else 100000
theorem cl_div (p : Pool) (T : Nat → Int) (k : Nat) (hk : k < p.n) : (p.cl T).div k = if 0 ≤ p.net (sumTo T p.n) then (p.want T k).tdiv p.step * p.step else -1 := by
  have hs := sumTo_ex T k p.n hk
  have e1 : (p.cl T).ta k = sumTo T p.n := by
    unfold Pool.ta Pool.olo
    show T (k : Int).toNat + sumTo (ex T k) p.n = _
    rw [Int.toNat_natCast]; omega
  have e2 : (p.cl T).tb k = sumTo T p.n := by
    unfold Pool.tb Pool.ohi
    show T (k : Int).toNat + sumTo (ex T k) p.n = _
    rw [Int.toNat_natCast]; omega
  have e3 : (p.cl T).num k = 0 := by unfold Pool.num; rw [e1, e2]; omega
  have e4 : (p.cl T).netAt k 0 = p.net (sumTo T p.n) := by
    unfold Pool.netAt; rw [e1]
    show p.net (sumTo T p.n + ((0 : Nat) : Int)) = _
    congr 1; omega
  have e5 : (p.cl T).mostAt k 0 = T k := by
    unfold Pool.mostAt Pool.olo; rw [e1]
    show min (T (k : Int).toNat) (sumTo T p.n + ((0 : Nat) : Int) - sumTo (ex T k) p.n) = T k
    rw [Int.toNat_natCast]; omega
  unfold Pool.div
  rw [e3]
  by_cases H : 0 ≤ p.net (sumTo T p.n)
  · rw [if_pos H, if_pos (fun j hj => by
      have : j = 0 := by omega
      subst this; rw [e4]; exact H)]
    simp only [Pool.bestTo]
    rw [e4, e5]
    rfl
  · rw [if_neg H, if_neg (fun h => H (by have := h 0 (by omega); rwa [e4] at this))]
end Go.Po
end
section
set_option linter.unusedSimpArgs false
set_option linter.unusedVariables false
namespace Go.Po
open Go.Sx
def Pool.dr (p : Pool) (keep pence : Int) : Pool := ⟨p.n, p.lo, p.hi, p.per, pence, keep, p.step⟩
def Pool.st (p : Pool) (s : Int) : Pool := ⟨p.n, p.lo, p.hi, p.per, p.pence, p.keep, s⟩
theorem dr_net (p : Pool) (h : p.Fine) (keep pence : Int) (h1 : p.keep ≤ keep) (h2 : p.pence ≤ pence) (u : Int) (hu : 0 ≤ u) : (p.dr keep pence).net u ≤ p.net u := by
  have h0 : 0 ≤ (100 * u).tdiv p.per := Int.tdiv_nonneg (by omega) (by have := h.per1; omega)
  have h3 : (100 * u).tdiv p.per * p.pence ≤ (100 * u).tdiv p.per * pence := Int.mul_le_mul_of_nonneg_left h2 h0
  unfold Pool.net Pool.dr
  simp only
  omega
theorem ta_nonneg (p : Pool) (h : p.Fine) (r : Nat) (hr : r < p.n) : 0 ≤ p.ta r := by
  obtain ⟨e, _⟩ := L_ta p h r hr
  have := LH p h
  omega
theorem dr_sLo (p : Pool) (h : p.Fine) (keep pence : Int) (h1 : p.keep ≤ keep) (h2 : p.pence ≤ pence) (r : Nat) (hr : r < p.n) (d : Int) : (p.dr keep pence).sLo r d ≤ p.sLo r d := by
  unfold Pool.sLo
  have hn : (p.dr keep pence).num r = p.num r := rfl
  rw [hn]
  refine foldMin_mono _ _ _ fun k _ => ?_
  have e1 : (p.dr keep pence).lowAt r d k = (p.dr keep pence).net (p.ta r + k) - d * min (p.hi (r : Int).toNat) (p.ta r + k - p.olo r) := rfl
  have e2 : p.lowAt r d k = p.net (p.ta r + k) - d * min (p.hi (r : Int).toNat) (p.ta r + k - p.olo r) := rfl
  rw [e1, e2]
  have := dr_net p h keep pence h1 h2 (p.ta r + k) (by have := ta_nonneg p h r hr; omega)
  omega
theorem dr_fine (p : Pool) (h : p.Fine) (keep pence : Int) (h1 : p.keep ≤ keep) (h2 : p.pence ≤ pence) (h3 : keep ≤ 100000) (h4 : pence ≤ p.per) : (p.dr keep pence).Fine :=
  ⟨h.n2, h.n8, h.per1, h.per2, by have := h.pence1; exact Int.le_trans this h2, h4, Int.le_trans h.keep1 h1, h3, h.step1, h.step2, h.rg⟩
theorem dr_div (p : Pool) (h : p.Fine) (keep pence : Int) (h1 : p.keep ≤ keep) (h2 : p.pence ≤ pence) (h3 : keep ≤ 100000) (h4 : pence ≤ p.per) (j : Nat) (hj : j < p.n) (hs : 0 ≤ (p.dr keep pence).sLo j 0) : 0 ≤ p.sLo j 0 ∧ (p.dr keep pence).div j ≤ p.div j := by
  have hq := dr_fine p h keep pence h1 h2 h3 h4
  have hle := fun d => dr_sLo p h keep pence h1 h2 j hj d
  have h0 : 0 ≤ p.sLo j 0 := Int.le_trans hs (hle 0)
  obtain ⟨f1, f2, f3⟩ := div_facts (p.dr keep pence) hq j hj hs
  have f4 := (div_iff (p.dr keep pence) hq j hj hs _ f1 f2 f3).2 (Int.le_refl _)
  exact ⟨h0, (div_iff p h j hj h0 _ f1 f2 f3).1 (Int.le_trans f4 (hle _))⟩
theorem st_sLo (p : Pool) (s r d : Int) : (p.st s).sLo r d = p.sLo r d := rfl
theorem st_fine (p : Pool) (h : p.Fine) : (p.st 1).Fine := ⟨h.n2, h.n8, h.per1, h.per2, h.pence1, h.pence2, h.keep1, h.keep2, by show (1 : Int) ≤ 1; omega, by show (1 : Int) ≤ 100; omega, h.rg⟩
theorem st_div (p : Pool) (h : p.Fine) (j : Nat) (hj : j < p.n) (h0 : 0 ≤ p.sLo j 0) : p.div j ≤ (p.st 1).div j ∧ (p.st 1).div j < p.div j + p.step := by
  have hq := st_fine p h
  have h0' : 0 ≤ (p.st 1).sLo j 0 := h0
  obtain ⟨f1, f2, f3⟩ := div_facts p h j hj h0
  obtain ⟨g1, g2, g3⟩ := div_facts (p.st 1) hq j hj h0'
  have f4 := (div_iff p h j hj h0 _ f1 f2 f3).2 (Int.le_refl _)
  have g4 := (div_iff (p.st 1) hq j hj h0' _ g1 g2 g3).2 (Int.le_refl _)
  refine ⟨(div_iff (p.st 1) hq j hj h0' _ f1 f2 (by show (p.div j).tmod 1 = 0; simp)).1 f4, ?_⟩
  refine Classical.byContradiction fun hno => ?_
  have hs := h.step1
  have e : (p.div j + p.step).tmod p.step = 0 := by
    have k1 := Int.tmod_add_tdiv_mul (p.div j) p.step
    have k2 := step_dvd (p := p) ((p.div j).tdiv p.step + 1)
    rw [Int.add_mul, Int.one_mul] at k2
    rw [f3, Int.zero_add] at k1
    rwa [k1] at k2
  have g5 : 0 ≤ p.sLo j (p.div j + p.step) := Int.le_trans g4 (sLo_mono p h j hj _ _ (by omega))
  have := (div_iff p h j hj h0 (p.div j + p.step) (by omega) (by omega) e).1 g5
  omega
end Go.Po
end
section
set_option linter.unusedSimpArgs false
set_option linter.unusedVariables false
namespace Go.Po
open Go.Sx
def Pool.p0 (p : Pool) : Pool := ⟨p.n, p.lo, p.hi, p.per, 0, p.keep, p.step⟩
def Pool.xo (p : Pool) (q : Nat) (m : Int) : Pool := ⟨p.n, fun i => if i = q then min 200 (p.lo i + m) else p.lo i, fun i => if i = q then min 200 (p.hi i + m) else p.hi i, p.per, 0, p.keep, p.step⟩
theorem p0_fine (p : Pool) (h : p.Fine) : p.p0.Fine := ⟨h.n2, h.n8, h.per1, h.per2, by show (0 : Int) ≤ 0; omega, by have := h.per1; show (0 : Int) ≤ p.per; omega, h.keep1, h.keep2, h.step1, h.step2, h.rg⟩
theorem xo_fine (p : Pool) (h : p.Fine) (q : Nat) (m : Int) (hm : 0 ≤ m) : (p.xo q m).Fine := ⟨h.n2, h.n8, h.per1, h.per2, by show (0 : Int) ≤ 0; omega, by have := h.per1; show (0 : Int) ≤ p.per; omega, h.keep1, h.keep2, h.step1, h.step2, fun i hi => by
  have := h.rg i hi
  show 0 ≤ (if i = q then min 200 (p.lo i + m) else p.lo i) ∧ (if i = q then min 200 (p.lo i + m) else p.lo i) ≤ (if i = q then min 200 (p.hi i + m) else p.hi i) ∧ (if i = q then min 200 (p.hi i + m) else p.hi i) ≤ 200
  split <;> omega⟩
theorem p0_net (p : Pool) (u : Int) : p.p0.net u = 100 * u - p.keep := by
  unfold Pool.net Pool.p0
  simp only [Int.mul_zero]
  omega
theorem xo_net (p : Pool) (q : Nat) (m u : Int) : (p.xo q m).net u = 100 * u - p.keep := by
  unfold Pool.net Pool.xo
  simp only [Int.mul_zero]
  omega
theorem xo_sLo (p : Pool) (h : p.Fine) (q a : Nat) (hq : q ≠ a) (ha : a < p.n) (m : Int) (hm : 0 ≤ m) (d : Int) (hd : 0 ≤ d) : p.p0.sLo a d ≤ (p.xo q m).sLo a d := by
  have hx := xo_fine p h q m hm
  have h0 := p0_fine p h
  have hv := wt_truth (p.xo q m) hx a ha d
  have hl := wt_left (p.xo q m) hx a ha d
  generalize (p.xo q m).wt a d = v at hv hl
  let u : Nat → Int := fun i => if i = q then min (p.hi i) (v i) else v i
  have hvr : ∀ i, i < p.n → (if i = q then min 200 (p.lo i + m) else p.lo i) ≤ v i ∧ v i ≤ (if i = q then min 200 (p.hi i + m) else p.hi i) := fun i hi => hv.rg i hi
  have hu : p.p0.Truth p.n u := ⟨rfl, fun i hi => by
    have h1 := hvr i hi
    have h2 := h.rg i hi
    show p.lo i ≤ u i ∧ u i ≤ p.hi i
    show p.lo i ≤ (if i = q then min (p.hi i) (v i) else v i) ∧ (if i = q then min (p.hi i) (v i) else v i) ≤ p.hi i
    by_cases e : i = q
    · rw [if_pos e, if_pos e] at h1; rw [if_pos e]; omega
    · rw [if_neg e, if_neg e] at h1; rw [if_neg e]; omega⟩
  have hw := (truth_within p.p0 h0 u hu a ha d hd).1
  have hs : sumTo u p.n ≤ sumTo v p.n := sumTo_le u v p.n (fun i hi => by
    show (if i = q then min (p.hi i) (v i) else v i) ≤ v i
    split <;> omega) p.n (Nat.le_refl _)
  have ea : u a = v a := by
    show (if a = q then min (p.hi a) (v a) else v a) = v a
    rw [if_neg (fun e => hq e.symm)]
  rw [ea] at hw
  have en : p.p0.n = p.n := rfl
  have en2 : (p.xo q m).n = p.n := rfl
  rw [en, p0_net] at hw
  rw [en2, xo_net] at hl
  omega
theorem xo_div (p : Pool) (h : p.Fine) (q a : Nat) (hq : q ≠ a) (ha : a < p.n) (m : Int) (hm : 0 ≤ m) (h0 : 0 ≤ p.p0.sLo a 0) : 0 ≤ (p.xo q m).sLo a 0 ∧ p.p0.div a ≤ (p.xo q m).div a := by
  have hx := xo_fine p h q m hm
  have hp0 := p0_fine p h
  have h1 : 0 ≤ (p.xo q m).sLo a 0 := Int.le_trans h0 (xo_sLo p h q a hq ha m hm 0 (by omega))
  obtain ⟨f1, f2, f3⟩ := div_facts p.p0 hp0 a ha h0
  have f4 := (div_iff p.p0 hp0 a ha h0 _ f1 f2 f3).2 (Int.le_refl _)
  exact ⟨h1, (div_iff (p.xo q m) hx a ha h1 _ f1 f2 f3).1 (Int.le_trans f4 (xo_sLo p h q a hq ha m hm _ f1))⟩
theorem other (a n : Nat) (s : Nat) (ha : a < n) (hs : s < n - 1) : (a + 1 + s) % n < n ∧ (a + 1 + s) % n ≠ a := by
  refine ⟨Nat.mod_lt _ (by omega), ?_⟩
  by_cases h : a + 1 + s < n
  · rw [Nat.mod_eq_of_lt h]; omega
  · rw [Nat.mod_eq_sub_mod (by omega), Nat.mod_eq_of_lt (by omega)]; omega
end Go.Po
end
