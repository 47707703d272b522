/- A part of the proof. -/
import Derived.Test.YtnkplemacdipfaaLA
section
set_option linter.unusedSimpArgs false
set_option linter.unusedVariables false
namespace Go.Po
open Go.Sx
theorem tmod_nat (b : Int) (n : Nat) (h0 : 0 ≤ b) : b.tmod n = ((b.toNat % n : Nat) : Int) := by
  rw [Int.tmod_eq_emod_of_nonneg h0]
  have : b = (b.toNat : Int) := by omega
  conv => lhs; rw [this]
  exact (Int.natCast_emod _ _).symm
def Pool.pen (p : Pool) (b : Int) : Int := b.tmod (Int.tdiv 100000 p.step + 1) * p.step
theorem step_dvd {p : Pool} (a : Int) : (a * p.step).tmod p.step = 0 := Int.mul_tmod_left a p.step
theorem pen_ok (p : Pool) (h : p.err = 0) (k : Nat) (hk : k < p.n) (b : Int) (hb : 0 ≤ b) : p.asked k (p.pen b) = 0 ∧ 0 ≤ p.pen b ∧ p.pen b ≤ 100000 := by
  have hs := (Pool.fine h).step1
  have ht := tdiv_le 100000 p.step (by omega) hs
  have hm0 := Int.tmod_nonneg (Int.tdiv 100000 p.step + 1) hb
  have hm1 := Int.tmod_lt_of_pos b (show 0 < Int.tdiv 100000 p.step + 1 by omega)
  have hm2 : b.tmod (Int.tdiv 100000 p.step + 1) * p.step ≤ Int.tdiv 100000 p.step * p.step := Int.mul_le_mul_of_nonneg_right (by omega) (by omega)
  have hm3 : 0 ≤ b.tmod (Int.tdiv 100000 p.step + 1) * p.step := Int.mul_nonneg hm0 (by omega)
  unfold Pool.pen
  refine ⟨?_, hm3, by omega⟩
  unfold Pool.asked
  rw [if_pos h, if_neg (by omega), if_pos ⟨hm3, by omega, step_dvd _⟩]
theorem byT_truth (p : Pool) (h : p.Fine) (m : Nat) (b : Nat → Int) (hb : ∀ i, i < m → 0 ≤ b i ∧ b i ≤ 255) : p.Truth p.n (p.byT m b) := ⟨rfl, fun i hi => by
  have hr := h.rg i hi
  unfold Pool.byT
  by_cases hm : 0 < m
  · rw [if_pos hm]
    have hbi := hb (i % m) (Nat.mod_lt _ hm)
    have h0 := Int.tmod_nonneg (p.hi i - p.lo i + 1) hbi.1
    have h1 := Int.tmod_lt_of_pos (b (i % m)) (show 0 < p.hi i - p.lo i + 1 by omega)
    omega
  · rw [if_neg hm]; omega⟩
def Pool.lv (p : Pool) (u : Nat → Int) (k : Nat) (d : Int) : Int := p.net (sumTo u p.n) - d * u k
theorem lv_left (p : Pool) (u : Nat → Int) (k : Nat) (d : Int) (ha : p.asked k d = 0) (ht : p.Truth p.n u) : p.leftE p.n u k d = 0 ∧ p.leftV p.n u k d = p.lv u k d ∧ p.leftL p.n u k d = p.lv u k d ∧ p.chE p.n u k d = (if 0 ≤ p.lv u k d then 14 else 0) := by
  have e1 : p.leftE p.n u k d = 0 := by unfold Pool.leftE; rw [if_pos ha]; exact tr_truth ht
  have e2 : p.leftV p.n u k d = p.lv u k d := by unfold Pool.leftV; rw [if_pos e1, Int.toNat_natCast]; rfl
  refine ⟨e1, e2, by unfold Pool.leftL; rw [if_pos e1, e2], by unfold Pool.chE; rw [if_pos e1, e2]⟩
theorem fine_err {p : Pool} (h : ¬ (20 : Int) < p.n ∧ p.err = 0) : p.err = 0 ∧ p.Fine ∧ p.n ≤ 8 ∧ 2 ≤ p.n := ⟨h.2, Pool.fine h.2, (Pool.fine h.2).n8, (Pool.fine h.2).n2⟩
theorem netE_ok (p : Pool) (h : p.err = 0) (u : Nat → Int) (ht : p.Truth p.n u) : p.netE p.n u = 0 ∧ p.netV p.n u = p.net (sumTo u p.n) := by
  have e1 : p.netE p.n u = 0 := by unfold Pool.netE; rw [if_pos h]; exact tr_truth ht
  exact ⟨e1, by unfold Pool.netV; rw [if_pos e1]⟩
end Go.Po
end
section
set_option linter.unusedSimpArgs false
set_option linter.unusedVariables false
namespace Go.Po
open Go.Sx
theorem div_iff (p : Pool) (h : p.Fine) (k : Nat) (hk : k < p.n) (h0 : 0 ≤ p.sLo k 0) (d : Int) (hd0 : 0 ≤ d) (hd1 : d ≤ 100000) (hd : d.tmod p.step = 0) : 0 ≤ p.sLo k d ↔ d ≤ p.div k := by
  rw [safe_iff p h k hk h0 d hd0 hd1, div_eq p h k hk h0]
  have hs := h.step1
  have hb := best_bound p k (p.num k + 1) ((net0_iff p k).1 h0)
  generalize p.bestTo k (p.num k + 1) = b at *
  rw [Int.tmod_eq_emod_of_nonneg hd0] at hd
  rw [Int.tdiv_eq_ediv_of_nonneg hb.1]
  obtain ⟨q, rfl⟩ := Int.dvd_of_emod_eq_zero hd
  have e1 : p.step * q ≤ b ↔ q ≤ b / p.step := by
    rw [Int.le_ediv_iff_mul_le (by omega), Int.mul_comm]
  rw [e1]
  constructor
  · intro H
    rw [Int.mul_comm]; exact Int.mul_le_mul_of_nonneg_right H (by omega)
  · intro H
    rw [Int.mul_comm] at H
    exact Int.le_of_mul_le_mul_right H (by omega)
theorem div_facts (p : Pool) (h : p.Fine) (k : Nat) (hk : k < p.n) (h0 : 0 ≤ p.sLo k 0) : 0 ≤ p.div k ∧ p.div k ≤ 100000 ∧ (p.div k).tmod p.step = 0 := by
  have hs := h.step1
  have hb := best_bound p k (p.num k + 1) ((net0_iff p k).1 h0)
  have ht := tdiv_le _ p.step hb.1 hs
  rw [div_eq p h k hk h0]
  exact ⟨ht.2.2.1, by omega, step_dvd _⟩
theorem neg_same (p : Pool) (h : p.Fine) (j k : Nat) (hj : j < p.n) (hk : k < p.n) : 0 ≤ p.sLo j 0 ↔ 0 ≤ p.sLo k 0 := by
  obtain ⟨a1, a2⟩ := L_ta p h j hj
  obtain ⟨b1, b2⟩ := L_ta p h k hk
  have en : p.num j = p.num k := by unfold Pool.num; rw [← a1, ← a2, ← b1, ← b2]
  rw [net0_iff, net0_iff, en]
  have e : ∀ i, p.netAt j i = p.netAt k i := fun i => by unfold Pool.netAt; rw [← a1, ← b1]
  constructor <;> intro H i hi
  · rw [← e]; exact H i hi
  · rw [e]; exact H i hi
theorem err_fine {p : Pool} (h : p.Fine) : p.err = 0 := by
  unfold Pool.err
  have h1 := h.n2; have h2 := h.n8; have h3 := h.per1; have h4 := h.per2; have h5 := h.pence1; have h6 := h.pence2; have h7 := h.keep1; have h8 := h.keep2; have h9 := h.step1; have h10 := h.step2
  rw [if_neg (by omega), if_neg (by omega), if_pos h.rg]
theorem asked_mul {p : Pool} (h : p.err = 0) (k : Nat) (hk : k < p.n) (d : Int) (h0 : 0 ≤ d) (h1 : d ≤ 100000) (hd : d.tmod p.step = 0) : p.asked k d = 0 := by
  unfold Pool.asked
  rw [if_pos h, if_neg (by omega), if_pos ⟨h0, h1, hd⟩]
theorem board_cases (p : Pool) (h : p.Fine) : (∀ j : Nat, j < p.n → 0 ≤ p.div j ∧ 0 ≤ p.sLo j 0) ∨ ((∃ k : Nat, k < p.n ∧ (∀ j : Nat, j < k → 0 ≤ p.div j) ∧ p.div k < 0) ∧ ∀ j : Nat, j < p.n → p.sLo j 0 < 0 ∧ p.div j < 0) := by
  have h2 := h.n2
  by_cases H : 0 ≤ p.sLo 0 0
  · left
    intro j hj
    have : 0 ≤ p.sLo j 0 := (neg_same p h 0 j (by omega) hj).1 H
    exact ⟨(div_facts p h j hj this).1, this⟩
  · right
    have hall : ∀ j : Nat, j < p.n → p.sLo j 0 < 0 ∧ p.div j < 0 := fun j hj => by
      have : ¬ 0 ≤ p.sLo j 0 := fun e => H ((neg_same p h 0 j (by omega) hj).2 e)
      have h3 : p.sLo j 0 < 0 := by omega
      exact ⟨h3, (div_neg p h j hj).2 h3⟩
    exact ⟨⟨0, by omega, fun j hj => by omega, (hall 0 (by omega)).2⟩, hall⟩
end Go.Po
end
section
set_option linter.unusedSimpArgs false
set_option linter.unusedVariables false
namespace Go.Po
open Go.Sx
theorem foldMax_mono (f g : Nat → Int) : ∀ m, (∀ k, k ≤ m → f k ≤ g k) → foldMax f m ≤ foldMax g m
  | 0, h => h 0 (Nat.le_refl _)
  | m + 1, h => by
    have h1 := foldMax_mono f g m fun k hk => h k (by omega)
    have h2 := h (m + 1) (Nat.le_refl _)
    simp only [foldMax]; omega
theorem foldMin_mono (f g : Nat → Int) : ∀ m, (∀ k, k ≤ m → f k ≤ g k) → foldMin f m ≤ foldMin g m
  | 0, h => h 0 (Nat.le_refl _)
  | m + 1, h => by
    have h1 := foldMin_mono f g m fun k hk => h k (by omega)
    have h2 := h (m + 1) (Nat.le_refl _)
    simp only [foldMin]; omega
theorem sHi_mono (p : Pool) (h : p.Fine) (r : Nat) (hr : r < p.n) (d d' : Int) (hd : d ≤ d') : p.sHi r d' ≤ p.sHi r d := by
  unfold Pool.sHi
  refine foldMax_mono _ _ _ fun k _ => ?_
  unfold Pool.highAt
  have hlo := h.rg r hr
  have : d * max (p.lo r) (p.ta r + k - p.ohi r) ≤ d' * max (p.lo r) (p.ta r + k - p.ohi r) := Int.mul_le_mul_of_nonneg_right hd (by omega)
  rw [Int.toNat_natCast]
  omega
end Go.Po
end
