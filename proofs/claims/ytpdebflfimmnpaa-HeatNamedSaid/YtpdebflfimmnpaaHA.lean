/- A part of the proof. -/
section
set_option linter.unusedSimpArgs false
set_option linter.unusedVariables false
set_option linter.defProp false
set_option maxRecDepth 100000
namespace Go.He
structure Wd where
 a : Int
 b : Int
 k : Int
def Lk (w : Wd) (x y : Int) : Prop := (w.a = x ∧ w.b = y) ∨ (w.k = 1 ∧ w.b = x ∧ w.a = y)
def lnk (w : Wd) (l : List Int) : List Int := (if w.a ∈ l then [w.b] else []) ++ (if w.k = 1 ∧ w.b ∈ l then [w.a] else [])
theorem mem_lnk {w : Wd} {l : List Int} {y : Int} : y ∈ lnk w l ↔ ∃ x, x ∈ l ∧ Lk w x y := by
 unfold lnk Lk
 rw [List.mem_append]
 constructor
 ·rintro (h | h)
  ·split at h
   ·rename_i h1; rw [List.mem_singleton] at h; exact ⟨w.a, h1, .inl ⟨rfl, h.symm⟩⟩
   ·cases h
  ·split at h
   ·rename_i h1; rw [List.mem_singleton] at h; exact ⟨w.b, h1.2, .inr ⟨h1.1, rfl, h.symm⟩⟩
   ·cases h
 ·rintro ⟨x, hx, (⟨h1, h2⟩ | ⟨h1, h2, h3⟩)⟩
  ·left; rw [if_pos (h1 ▸ hx), List.mem_singleton, h2]
  ·right; rw [if_pos ⟨h1, h2 ▸ hx⟩, List.mem_singleton, h3]
def fol (w : Nat → Wd) (c : Nat → Int) (r : Int) : Nat → List Int
 | 0 => [r]
 | j + 1 => lnk (w (c j).toNat) (fol w c r j)
def says (w : Wd) (f : Int → Int) : Prop := if w.k = 0 then f w.a < f w.b else if w.k = 1 then f w.a = f w.b else f w.a ≤ f w.b
instance (w : Wd) (f : Int → Int) : Decidable (says w f) := by unfold says; infer_instance
inductive Go (w : Nat → Wd) (m : Nat) (x : Int) : Nat → Int → Prop
 | nil : Go w m x 0 x
 | snoc {d : Nat} {y z : Int} (i : Nat) (h : Go w m x d y) (hi : i < m) (hl : Lk (w i) y z) : Go w m x (d + 1) z
theorem Go.app {w : Nat → Wd} {m : Nat} {x y z : Int} {d e : Nat} (h : Go w m x d y) (h2 : Go w m y e z) : Go w m x (d + e) z := by
 induction h2 with
 | nil => exact h
 | snoc i _ hi hl ih => exact .snoc i ih hi hl
theorem Go.cons {w : Nat → Wd} {m : Nat} {x y z : Int} {e : Nat} (i : Nat) (hi : i < m) (hl : Lk (w i) x y) (h2 : Go w m y e z) : Go w m x (e + 1) z := by
 have := Go.app (.snoc i .nil hi hl) h2
 rwa [Nat.add_comm] at this
structure Fit (w : Nat → Wd) (m : Nat) (n : Int) : Prop where
 a : ∀ i, i < m → 0 ≤ (w i).a ∧ (w i).a < n
 b : ∀ i, i < m → 0 ≤ (w i).b ∧ (w i).b < n
 ne : ∀ i, i < m → (w i).a ≠ (w i).b
 k : ∀ i, i < m → 0 ≤ (w i).k ∧ (w i).k ≤ 2
theorem Lk.in {w : Nat → Wd} {m : Nat} {n : Int} (hf : Fit w m n) {i : Nat} (hi : i < m) {x y : Int} (h : Lk (w i) x y) : (0 ≤ x ∧ x < n) ∧ 0 ≤ y ∧ y < n := by
 have a := hf.a i hi
 have b := hf.b i hi
 rcases h with ⟨rfl, rfl⟩ | ⟨_, rfl, rfl⟩
 ·exact ⟨a, b⟩
 ·exact ⟨b, a⟩
theorem Go.in {w : Nat → Wd} {m : Nat} {n : Int} (hf : Fit w m n) {x : Int} (hx : 0 ≤ x ∧ x < n) {d : Nat} {y : Int} (h : Go w m x d y) : 0 ≤ y ∧ y < n := by
 cases h with
 | nil => exact hx
 | snoc i _ hi hl => exact (hl.in hf hi).2
open Classical in
noncomputable def cnt (P : Int → Prop) : Nat → Nat
 | 0 => 0
 | n + 1 => cnt P n + (if P n then 1 else 0)
open Classical in
theorem cnt_le (P : Int → Prop) : ∀ n, cnt P n ≤ n
 | 0 => Nat.le_refl 0
 | n + 1 => by simp only [cnt]; have := cnt_le P n; split <;> omega
open Classical in
theorem cnt_mono {P Q : Int → Prop} : ∀ {n : Nat}, (∀ x : Nat, x < n → P x → Q x) → cnt P n ≤ cnt Q n
 | 0, _ => Nat.le_refl 0
 | n + 1, h => by
  simp only [cnt]
  have := cnt_mono (n := n) fun x hx => h x (by omega)
  have h2 := h n (by omega)
  by_cases hp : P n
  ·rw [if_pos hp, if_pos (h2 hp)]; omega
  ·rw [if_neg hp]; omega
open Classical in
theorem cnt_lt {P Q : Int → Prop} : ∀ {n : Nat}, (∀ x : Nat, x < n → P x → Q x) → (∃ x : Nat, x < n ∧ Q x ∧ ¬ P x) → cnt P n < cnt Q n
 | 0, _, ⟨x, hx, _⟩ => by omega
 | n + 1, h, ⟨x, hx, hq, hp⟩ => by
  simp only [cnt]
  have h2 := h n (by omega)
  by_cases e : x = n
  ·subst e
   have := cnt_mono (n := x) fun y hy => h y (by omega)
   rw [if_neg hp, if_pos hq]; omega
  ·have := cnt_lt (n := n) (fun y hy => h y (by omega)) ⟨x, by omega, hq, hp⟩
   by_cases hp2 : P n
   ·rw [if_pos hp2, if_pos (h2 hp2)]; omega
   ·rw [if_neg hp2]; omega
def Wi (w : Nat → Wd) (m : Nat) (x : Int) (d : Nat) (y : Int) : Prop := ∃ e, e ≤ d ∧ Go w m x e y
theorem Wi.mono {w : Nat → Wd} {m : Nat} {x y : Int} {d e : Nat} (h : d ≤ e) : Wi w m x d y → Wi w m x e y := fun ⟨k, h1, h2⟩ => ⟨k, by omega, h2⟩
theorem wi_grow {w : Nat → Wd} {m n : Nat} {x : Int} (hf : Fit w m n) (hx : 0 ≤ x ∧ x < n) : ∀ d : Nat, (∃ e, e < d ∧ ∀ y, Wi w m x (e + 1) y → Wi w m x e y) ∨ d + 1 ≤ cnt (Wi w m x d) n
 | 0 => by
  right
  have := cnt_lt (P := fun _ => False) (Q := Wi w m x 0) (n := n) (fun _ _ h => h.elim) ⟨x.toNat, by omega, ⟨0, Nat.le_refl 0, by rw [Int.toNat_of_nonneg hx.1]; exact .nil⟩, fun h => h⟩
  omega
 | d + 1 => by
  rcases wi_grow hf hx d with ⟨e, h1, h2⟩ | h
  ·exact .inl ⟨e, by omega, h2⟩
  ·by_cases hc : ∀ y, Wi w m x (d + 1) y → Wi w m x d y
   ·exact .inl ⟨d, by omega, hc⟩
   ·right
    obtain ⟨y, hy⟩ := Classical.not_forall.1 hc
    have ⟨y1, y2⟩ := Classical.not_imp.1 hy
    have hyn : 0 ≤ y ∧ y < n := by obtain ⟨k, _, hk⟩ := y1; exact hk.in hf hx
    have := cnt_lt (P := Wi w m x d) (Q := Wi w m x (d + 1)) (n := n) (fun _ _ h => h.mono (by omega)) ⟨y.toNat, by omega, by rw [Int.toNat_of_nonneg hyn.1]; exact y1, by rw [Int.toNat_of_nonneg hyn.1]; exact y2⟩
    omega
theorem go_short {w : Nat → Wd} {m n : Nat} {x : Int} (hf : Fit w m n) (hx : 0 ≤ x ∧ x < n) {d : Nat} {y : Int} (h : Go w m x d y) : ∃ e, e < n ∧ Go w m x e y := by
 rcases wi_grow hf hx n with ⟨e, h1, h2⟩ | h3
 ·have all : ∀ d y, Go w m x d y → Wi w m x e y := by
   intro d y h
   induction h with
   | nil => exact ⟨0, Nat.zero_le _, .nil⟩
   | snoc i _ hi hl ih =>
    obtain ⟨k, k1, k2⟩ := ih
    exact h2 _ ⟨k + 1, by omega, .snoc i k2 hi hl⟩
  obtain ⟨k, k1, k2⟩ := all d y h
  exact ⟨k, by omega, k2⟩
 ·have := cnt_le (Wi w m x n) n
  omega
def Bef (w : Nat → Wd) (m : Nat) (x y : Int) : Prop := ∃ i d e, i < m ∧ (w i).k = 0 ∧ Go w m x d (w i).a ∧ Go w m (w i).b e y
theorem Bef.right {w : Nat → Wd} {m : Nat} {x y z : Int} {i : Nat} (h : Bef w m x y) (hi : i < m) (hl : Lk (w i) y z) : Bef w m x z := by
 obtain ⟨j, d, e, h1, h2, h3, h4⟩ := h
 exact ⟨j, d, e + 1, h1, h2, h3, .snoc i h4 hi hl⟩
def Loop (w : Nat → Wd) (m : Nat) : Prop := ∃ i d, i < m ∧ (w i).k = 0 ∧ Go w m (w i).b d (w i).a
noncomputable def key (w : Nat → Wd) (m n : Nat) (x : Int) : Nat := cnt (fun y => Bef w m y x) n
end Go.He
end
section
set_option linter.unusedSimpArgs false
set_option linter.unusedVariables false
set_option linter.defProp false
set_option maxRecDepth 100000
namespace Go.He
def rkN (g : Nat → Int) (i : Nat) : Nat → Int
 | 0 => 1
 | k + 1 => if g k < g i then rkN g i k + 1 else rkN g i k
def rk (g : Nat → Int) (n i : Nat) : Int := rkN g i n
theorem rkN_bd (g : Nat → Int) (i : Nat) : ∀ k : Nat, 1 ≤ rkN g i k ∧ rkN g i k ≤ k + 1
 | 0 => by simp [rkN]
 | k + 1 => by have := rkN_bd g i k; simp only [rkN]; split <;> omega
theorem rkN_lt_self (g : Nat → Int) (i : Nat) : ∀ k : Nat, i < k → rkN g i k ≤ k
 | 0, h => by omega
 | k + 1, h => by
  simp only [rkN]
  by_cases e : i = k
  ·subst e; rw [if_neg (by omega)]; have := rkN_bd g i i; omega
  ·have := rkN_lt_self g i k (by omega); split <;> omega
theorem rk_bd {g : Nat → Int} {n i : Nat} (h : i < n) : 1 ≤ rk g n i ∧ rk g n i ≤ n := ⟨(rkN_bd g i n).1, rkN_lt_self g i n h⟩
theorem rkN_congr {g h : Nat → Int} {i j : Nat} : ∀ {k : Nat}, (∀ x, x < k → (g x < g i ↔ h x < h j)) → rkN g i k = rkN h j k
 | 0, _ => rfl
 | k + 1, e => by
  simp only [rkN]
  rw [rkN_congr (k := k) fun x hx => e x (by omega)]
  by_cases c : g k < g i
  ·rw [if_pos c, if_pos ((e k (by omega)).1 c)]
  ·rw [if_neg c, if_neg fun d => c ((e k (by omega)).2 d)]
def Fin (g : Nat → Int) (n : Nat) : Prop := ∀ i, i < n → g i = rk g n i
theorem Fin.congr {g h : Nat → Int} {n : Nat} (e : ∀ i, i < n → g i = h i) (hf : Fin g n) : Fin h n := fun i hi => by
 rw [← e i hi, hf i hi]
 exact rkN_congr fun x hx => by rw [e x hx, e i hi]
instance (g : Nat → Int) (n : Nat) : Decidable (Fin g n) := by unfold Fin; infer_instance
def dg (n j t i : Nat) : Nat := t / n ^ (j - 1 - i) % n
def Dg (n t i : Nat) : Int := if i < n then 1 + (dg n n t i : Int) else 0
def enc (n : Nat) (f : Nat → Nat) : Nat → Nat
 | 0 => 0
 | j + 1 => enc n f j * n + f j
theorem enc_lt {n : Nat} {f : Nat → Nat} : ∀ {j : Nat}, (∀ i, i < j → f i < n) → enc n f j < n ^ j
 | 0, _ => Nat.one_pos
 | j + 1, h => by
  have ih := enc_lt (j := j) fun i hi => h i (by omega)
  have hf := h j (by omega)
  simp only [enc]
  have e : n ^ (j + 1) = n ^ j * n := Nat.pow_succ _ _
  have : (enc n f j + 1) * n ≤ n ^ j * n := Nat.mul_le_mul_right _ ih
  have e2 : (enc n f j + 1) * n = enc n f j * n + n := by rw [Nat.succ_mul]
  omega
theorem dg_enc {n : Nat} {f : Nat → Nat} : ∀ {j : Nat}, (∀ i, i < j → f i < n) → ∀ i, i < j → dg n j (enc n f j) i = f i
 | 0, _, i, h => by omega
 | j + 1, h, i, hi => by
  have hf := h j (by omega)
  simp only [enc]
  unfold dg
  by_cases e : i = j
  ·subst e
   rw [show i + 1 - 1 - i = 0 by omega, Nat.pow_zero, Nat.div_one, Nat.mul_comm, Nat.mul_add_mod, Nat.mod_eq_of_lt hf]
  ·have ih := dg_enc (j := j) (fun i hi => h i (by omega)) i (by omega)
   unfold dg at ih
   rw [show j + 1 - 1 - i = (j - 1 - i) + 1 by omega, Nat.pow_succ, Nat.mul_comm (n ^ (j - 1 - i)) n, ← Nat.div_div_eq_div_mul, Nat.mul_comm, Nat.mul_add_div (by omega), Nat.div_eq_of_lt hf, Nat.add_zero]
   exact ih
theorem Dg_bd {n t i : Nat} (h : i < n) : 1 ≤ Dg n t i ∧ Dg n t i ≤ n := by
 unfold Dg
 rw [if_pos h]
 have : dg n n t i < n := Nat.mod_lt _ (by omega)
 omega
theorem Dg_all {n : Nat} {f : Nat → Int} (h : ∀ i, i < n → 1 ≤ f i ∧ f i ≤ n) : ∃ t, t < n ^ n ∧ ∀ i, i < n → Dg n t i = f i := by
 have hb : ∀ i, i < n → (f i - 1).toNat < n := fun i hi => by have := h i hi; omega
 refine ⟨enc n (fun i => (f i - 1).toNat) n, enc_lt hb, fun i hi => ?_⟩
 unfold Dg
 rw [if_pos hi, dg_enc hb i hi]
 have := h i hi
 omega
def agr (w : Nat → Wd) (m : Nat) (f : Nat → Int) : Prop := ∀ i, i < m → says (w i) (fun x => f x.toNat)
instance (w : Nat → Wd) (m : Nat) (f : Nat → Int) : Decidable (agr w m f) := by unfold agr; infer_instance
theorem says_congr {w : Wd} {f g : Int → Int} (h1 : f w.a = g w.a) (h2 : f w.b = g w.b) : says w f ↔ says w g := by unfold says; rw [h1, h2]
theorem fin_num {w : Nat → Wd} {m n : Nat} (hw : Fit w m n) {f : Nat → Int} (hf : Fin f n) (ha : agr w m f) : ∃ t, t < n ^ n ∧ Fin (Dg n t) n ∧ agr w m (Dg n t) ∧ ∀ i, i < n → Dg n t i = f i := by
 obtain ⟨t, h1, h2⟩ := Dg_all (f := f) (n := n) fun i hi => by rw [hf i hi]; exact rk_bd hi
 refine ⟨t, h1, hf.congr fun i hi => (h2 i hi).symm, fun i hi => ?_, h2⟩
 have a := hw.a i hi
 have b := hw.b i hi
 exact (says_congr (f := fun x => f x.toNat) (h2 _ (by omega)).symm (h2 _ (by omega)).symm).1 (ha i hi)
end Go.He
end
section
set_option linter.unusedSimpArgs false
set_option linter.unusedVariables false
set_option linter.defProp false
set_option maxRecDepth 100000
namespace Go.He
theorem suf {n t : Nat} (hn : 1 ≤ n) : ∀ s : Nat, (∀ r, r < s → t / n ^ r % n = n - 1) → t % n ^ s + 1 = n ^ s
 | 0, _ => by simp [Nat.mod_one]
 | s + 1, h => by
  have ih := suf hn s fun r hr => h r (by omega)
  have h1 := h s (by omega)
  rw [Nat.pow_succ, Nat.mod_mul, h1]
  have e : n ^ s * (n - 1) + n ^ s = n ^ s * n := by
   rw [← Nat.mul_succ, show (n - 1).succ = n by omega]
  omega
theorem dm {u n : Nat} (hu : u % n < n) (h : u % n ≠ n - 1) : (u + 1) / n = u / n ∧ (u + 1) % n = u % n + 1 := by
 have eu := Nat.div_add_mod u n
 have e : u + 1 = n * (u / n) + (u % n + 1) := by omega
 have hl : u % n + 1 < n := by omega
 constructor
 ·conv => lhs; rw [e]
  rw [Nat.mul_add_div (by omega), Nat.div_eq_of_lt hl, Nat.add_zero]
 ·conv => lhs; rw [e]
  rw [Nat.mul_add_mod, Nat.mod_eq_of_lt hl]
theorem dg_next {n t i : Nat} (hi : i < n) (h : ∀ j, i < j → j < n → dg n n t j = n - 1) (h2 : dg n n t i ≠ n - 1) (j : Nat) (hj : j < n) : dg n n (t + 1) j = if j < i then dg n n t j else if j = i then dg n n t i + 1 else 0 := by
 have hs : t % n ^ (n - 1 - i) + 1 = n ^ (n - 1 - i) := suf (by omega) _ fun r hr => by
  have := h (n - 1 - r) (by omega) (by omega)
  unfold dg at this
  rwa [show n - 1 - (n - 1 - r) = r by omega] at this
 have hp : 0 < n ^ (n - 1 - i) := Nat.pow_pos (by omega)
 have ed := Nat.div_add_mod t (n ^ (n - 1 - i))
 unfold dg at h2
 have hu : t / n ^ (n - 1 - i) % n < n := Nat.mod_lt _ (by omega)
 have e1 : t + 1 = n ^ (n - 1 - i) * (t / n ^ (n - 1 - i) + 1) := by rw [Nat.mul_add]; omega
 have e2 : (t + 1) / n ^ (n - 1 - i) = t / n ^ (n - 1 - i) + 1 := by rw [e1, Nat.mul_div_cancel_left _ hp]
 unfold dg
 by_cases c : j < i
 ·rw [if_pos c]
  have ej : n - 1 - j = (n - 1 - i) + ((i - j - 1) + 1) := by omega
  rw [ej, Nat.pow_add, ← Nat.div_div_eq_div_mul, ← Nat.div_div_eq_div_mul, e2, Nat.pow_succ, Nat.mul_comm (n ^ (i - j - 1)) n, ← Nat.div_div_eq_div_mul, ← Nat.div_div_eq_div_mul]
  rw [(dm hu h2).1]
 ·rw [if_neg c]
  by_cases c2 : j = i
  ·subst c2
   rw [if_pos rfl, e2, (dm hu h2).2]
  ·rw [if_neg c2, e1]
   have ej : n - 1 - i = (n - 1 - j) + ((j - i - 1) + 1) := by omega
   have hpj : 0 < n ^ (n - 1 - j) := Nat.pow_pos (by omega)
   generalize t / n ^ (n - 1 - i) + 1 = u
   rw [ej, Nat.pow_add, Nat.mul_assoc, Nat.mul_div_cancel_left _ hpj, Nat.pow_succ, Nat.mul_comm (n ^ (j - i - 1)) n, Nat.mul_assoc, Nat.mul_mod_right]
theorem Dg_next {n t i : Nat} (hi : i < n) (h : ∀ j, i < j → j < n → Dg n t j = n) (h2 : Dg n t i ≠ n) (j : Nat) (hj : j < n) : Dg n (t + 1) j = if j < i then Dg n t j else if j = i then Dg n t i + 1 else 1 := by
 have h' : ∀ j, i < j → j < n → dg n n t j = n - 1 := fun j a b => by
  have := h j a b
  unfold Dg at this
  rw [if_pos b] at this
  omega
 have h2' : dg n n t i ≠ n - 1 := fun e => h2 (by unfold Dg; rw [if_pos hi, e]; omega)
 have := dg_next hi h' h2' j hj
 unfold Dg
 rw [if_pos hj, if_pos hi, this]
 by_cases c : j < i
 ·simp only [if_pos c, if_pos hj]
 ·simp only [if_neg c]
  by_cases c2 : j = i
  ·simp only [if_pos c2]; omega
  ·simp only [if_neg c2]; rfl
theorem Dg_last {n t : Nat} (hn : 1 ≤ n) (ht : t < n ^ n) (h : ∀ j, j < n → Dg n t j = n) : t + 1 = n ^ n := by
 have := suf (t := t) hn n fun r hr => by
  have := h (n - 1 - r) (by omega)
  unfold Dg dg at this
  rw [if_pos (by omega), show n - 1 - (n - 1 - r) = r by omega] at this
  omega
 rwa [Nat.mod_eq_of_lt ht] at this
theorem Dg_more {n t i : Nat} (hi : i < n) (ht : t < n ^ n) (h2 : Dg n t i ≠ n) : t + 1 < n ^ n := by
 refine Nat.lt_of_le_of_ne ht fun e => h2 ?_
 have hp : 0 < n ^ (n - 1 - i) := Nat.pow_pos (by omega)
 have hq : 0 < n ^ i := Nat.pow_pos (by omega)
 have e1 : n ^ n = n ^ (n - 1 - i) * (n * n ^ i) := by
  rw [← Nat.mul_assoc, ← Nat.pow_succ, ← Nat.pow_add]; congr 1; omega
 have e2 : n ^ (n - 1 - i) * (n * n ^ i) = n ^ (n - 1 - i) * (n * n ^ i - 1) + n ^ (n - 1 - i) := by
  rw [← Nat.mul_succ]; congr 1
  have : 0 < n * n ^ i := Nat.mul_pos (by omega) hq
  omega
 have e3 : t / n ^ (n - 1 - i) = n * n ^ i - 1 := by
  refine Nat.div_eq_of_lt_le ?_ ?_
  ·rw [Nat.mul_comm]; omega
  ·rw [Nat.succ_mul, Nat.mul_comm]; omega
 have e4 : n * n ^ i - 1 = n * (n ^ i - 1) + (n - 1) := by
  obtain ⟨k, hk⟩ : ∃ k, n ^ i = k + 1 := ⟨n ^ i - 1, by omega⟩
  rw [hk, Nat.mul_succ]
  have : k + 1 - 1 = k := rfl
  rw [this]
  omega
 unfold Dg dg
 rw [if_pos hi, e3, e4, Nat.mul_add_mod, Nat.mod_eq_of_lt (by omega)]
 omega
theorem Dg_0 {n i : Nat} (h : i < n) : Dg n 0 i = 1 := by unfold Dg dg; rw [if_pos h, Nat.zero_div, Nat.zero_mod]; rfl
end Go.He
end
section
set_option linter.unusedSimpArgs false
set_option linter.unusedVariables false
set_option linter.defProp false
set_option maxRecDepth 100000
namespace Go.He
def lst (p : Nat → Bool) : Nat → List Nat
 | 0 => []
 | T + 1 => if p T = true then lst p T ++ [T] else lst p T
theorem mem_lst {p : Nat → Bool} {t : Nat} : ∀ {T : Nat}, t ∈ lst p T ↔ t < T ∧ p t = true
 | 0 => by simp [lst]
 | T + 1 => by
  simp only [lst]
  split
  ·rename_i h
   rw [List.mem_append, mem_lst (T := T), List.mem_singleton]
   constructor
   ·rintro (⟨a, b⟩ | rfl)
    ·exact ⟨by omega, b⟩
    ·exact ⟨by omega, h⟩
   ·rintro ⟨a, b⟩
    by_cases e : t = T
    ·exact .inr e
    ·exact .inl ⟨by omega, b⟩
  ·rename_i h
   rw [mem_lst (T := T)]
   constructor
   ·rintro ⟨a, b⟩; exact ⟨by omega, b⟩
   ·rintro ⟨a, b⟩
    by_cases e : t = T
    ·subst e; exact absurd b h
    ·exact ⟨by omega, b⟩
theorem lst_nodup (p : Nat → Bool) : ∀ T : Nat, (lst p T).Nodup
 | 0 => List.nodup_nil
 | T + 1 => by
  simp only [lst]
  split
  ·refine List.nodup_append.2 ⟨lst_nodup p T, by simp, fun a ha b hb => ?_⟩
   rw [List.mem_singleton] at hb
   have := (mem_lst.1 ha).1
   omega
  ·exact lst_nodup p T
theorem lst_len (p : Nat → Bool) : ∀ T : Nat, (lst p T).length ≤ T
 | 0 => Nat.le_refl 0
 | T + 1 => by
  simp only [lst]
  have := lst_len p T
  split
  ·rw [List.length_append]; simp; omega
  ·omega
theorem lst_congr {p q : Nat → Bool} : ∀ {T : Nat}, (∀ t, t < T → p t = q t) → lst p T = lst q T
 | 0, _ => rfl
 | T + 1, h => by
  simp only [lst]
  rw [lst_congr (T := T) fun t ht => h t (by omega), h T (by omega)]
theorem inj_len {φ : Nat → Nat} : ∀ {l m : List Nat}, l.Nodup → (∀ a, a ∈ l → φ a ∈ m) → (∀ a b, a ∈ l → b ∈ l → φ a = φ b → a = b) → l.length ≤ m.length
 | [], _, _, _, _ => Nat.zero_le _
 | a :: l, m, hn, hm, hi => by
  rw [List.nodup_cons] at hn
  have h1 := hm a (by simp)
  have := inj_len (φ := φ) (l := l) (m := m.erase (φ a)) hn.2 (fun b hb => by
   refine (List.mem_erase_of_ne fun e => ?_).2 (hm b (by simp [hb]))
   have := hi b a (by simp [hb]) (by simp) e
   exact hn.1 (this ▸ hb)) fun b c hb hc => hi b c (by simp [hb]) (by simp [hc])
  rw [List.length_erase_of_mem h1] at this
  have h2 := List.length_pos_of_mem h1
  simp only [List.length_cons]
  omega
theorem lst_le {p q : Nat → Bool} {T U : Nat} {φ : Nat → Nat} (h1 : ∀ t, t < T → p t = true → φ t < U ∧ q (φ t) = true) (h2 : ∀ a b, a < T → b < T → p a = true → p b = true → φ a = φ b → a = b) : (lst p T).length ≤ (lst q U).length :=
 inj_len (φ := φ) (lst_nodup p T) (fun a ha => mem_lst.2 (h1 a (mem_lst.1 ha).1 (mem_lst.1 ha).2)) fun a b ha hb => h2 a b (mem_lst.1 ha).1 (mem_lst.1 hb).1 (mem_lst.1 ha).2 (mem_lst.1 hb).2
theorem lst_mono {p q : Nat → Bool} {T : Nat} (h : ∀ t, t < T → p t = true → q t = true) : (lst p T).length ≤ (lst q T).length :=
 lst_le (φ := id) (fun t ht hp => ⟨ht, h t ht hp⟩) fun a b _ _ _ _ e => e
theorem lst_nil {p : Nat → Bool} {T : Nat} : (lst p T).length = 0 ↔ ∀ t, t < T → p t = false := by
 constructor
 ·intro h t ht
  cases hp : p t with
  | false => rfl
  | true =>
   have := mem_lst.2 ⟨ht, hp⟩
   rw [List.length_eq_zero_iff.1 h] at this
   cases this
 ·intro h
  rw [List.length_eq_zero_iff]
  cases hl : lst p T with
  | nil => rfl
  | cons a l =>
   have := mem_lst.1 (show a ∈ lst p T by rw [hl]; simp)
   rw [h a this.1] at this
   cases this.2
def okF (n : Nat) (t : Nat) : Bool := decide (Fin (Dg n t) n)
def okA (w : Nat → Wd) (m n : Nat) (t : Nat) : Bool := okF n t && decide (agr w m (Dg n t))
def fins (n : Nat) : List Nat := lst (okF n) (n ^ n)
def agrs (w : Nat → Wd) (m n : Nat) : List Nat := lst (okA w m n) (n ^ n)
theorem okA_iff {w : Nat → Wd} {m n t : Nat} : okA w m n t = true ↔ Fin (Dg n t) n ∧ agr w m (Dg n t) := by
 unfold okA okF; simp
end Go.He
end
section
set_option linter.unusedSimpArgs false
set_option linter.unusedVariables false
set_option linter.defProp false
set_option maxRecDepth 100000
namespace Go.He
def cat (w : Nat → Wd) (l : List Int) : Nat → List Int
 | 0 => []
 | k + 1 => cat w l k ++ lnk (w k) l
def lev (w : Nat → Wd) (m : Nat) (x : Int) : Nat → List Int
 | 0 => [x]
 | d + 1 => cat w (lev w m x d) m
theorem lnk_len (w : Wd) (l : List Int) : (lnk w l).length ≤ 2 := by
 unfold lnk
 rw [List.length_append]
 split <;> split <;> simp
theorem mem_cat {w : Nat → Wd} {l : List Int} {y : Int} : ∀ {k : Nat}, y ∈ cat w l k ↔ ∃ i x, i < k ∧ x ∈ l ∧ Lk (w i) x y
 | 0 => by simp [cat]
 | k + 1 => by
  simp only [cat]
  rw [List.mem_append, mem_cat (k := k), mem_lnk]
  constructor
  ·rintro (⟨i, x, h1, h2, h3⟩ | ⟨x, h2, h3⟩)
   ·exact ⟨i, x, by omega, h2, h3⟩
   ·exact ⟨k, x, by omega, h2, h3⟩
  ·rintro ⟨i, x, h1, h2, h3⟩
   by_cases e : i = k
   ·subst e; exact .inr ⟨x, h2, h3⟩
   ·exact .inl ⟨i, x, by omega, h2, h3⟩
theorem mem_lev {w : Nat → Wd} {m : Nat} {x : Int} : ∀ {d : Nat} {y : Int}, y ∈ lev w m x d ↔ Go w m x d y
 | 0, y => by
  simp only [lev, List.mem_singleton]
  constructor
  ·rintro rfl; exact .nil
  ·intro h; cases h; rfl
 | d + 1, y => by
  simp only [lev, mem_cat]
  constructor
  ·rintro ⟨i, z, h1, h2, h3⟩; exact .snoc i (mem_lev.1 h2) h1 h3
  ·intro h
   cases h with
   | snoc i h hi hl => exact ⟨i, _, hi, mem_lev.2 h, hl⟩
structure Mi (S : Nat → Prop) (N : Nat) : Prop where
 none : N = 0 → ∀ L, ¬ S L
 some : N ≠ 0 → S N
 le : ∀ L, S L → N ≤ L
theorem Mi.uniq {S : Nat → Prop} {N M : Nat} (h : Mi S N) (g : Mi S M) : N = M := by
 by_cases hN : N = 0
 ·by_cases hM : M = 0
  ·omega
  ·exact absurd (g.some hM) (h.none hN _)
 ·by_cases hM : M = 0
  ·exact absurd (h.some hN) (g.none hM _)
  ·have := h.le _ (g.some hM); have := g.le _ (h.some hN); omega
theorem Mi.congr {S T : Nat → Prop} {N : Nat} (h : Mi S N) (e : ∀ L, S L ↔ T L) : Mi T N :=
 ⟨fun h0 L hL => h.none h0 L ((e L).2 hL), fun h0 => (e N).1 (h.some h0), fun L hL => h.le L ((e L).2 hL)⟩
theorem Mi.step {S : Nat → Prop} {N j : Nat} {c : Prop} [Decidable c] (h : Mi S N) (hj : j ≠ 0) : Mi (fun L => S L ∨ (c ∧ L = j)) (if c ∧ (N = 0 ∨ j < N) then j else N) := by
 split
 ·rename_i h1
  obtain ⟨hc, h2⟩ := h1
  refine ⟨fun e => absurd e hj, fun _ => .inr ⟨hc, rfl⟩, fun L hL => ?_⟩
  rcases hL with hL | ⟨_, rfl⟩
  ·rcases h2 with h0 | h2
   ·exact absurd hL (h.none h0 L)
   ·have := h.le L hL; omega
  ·exact Nat.le_refl _
 ·rename_i h1
  refine ⟨fun e L hL => ?_, fun h0 => .inl (h.some h0), fun L hL => ?_⟩
  ·rcases hL with hL | ⟨hc, _⟩
   ·exact h.none e L hL
   ·exact h1 ⟨hc, .inl e⟩
  ·rcases hL with hL | ⟨hc, rfl⟩
   ·exact h.le L hL
   ·by_cases hN : N = 0
    ·omega
    ·refine Nat.le_of_not_lt fun hlt => h1 ⟨hc, .inr hlt⟩
def inS (w : Nat → Wd) (m i : Nat) (best : Nat) : Nat → Nat
 | 0 => best
 | j + 1 => if (w i).a ∈ lev w m (w i).b j ∧ (inS w m i best j = 0 ∨ j + 1 < inS w m i best j) then j + 1 else inS w m i best j
def shN (w : Nat → Wd) (m n : Nat) : Nat → Nat
 | 0 => 0
 | i + 1 => if (w i).k = 0 then inS w m i (shN w m n i) n else shN w m n i
def Sz (w : Nat → Wd) (m n k : Nat) (L : Nat) : Prop := ∃ i d, i < k ∧ (w i).k = 0 ∧ d < n ∧ Go w m (w i).b d (w i).a ∧ L = d + 1
theorem inS_mi {w : Nat → Wd} {m i best : Nat} {S : Nat → Prop} (h : Mi S best) : ∀ j : Nat, Mi (fun L => S L ∨ ∃ d, d < j ∧ Go w m (w i).b d (w i).a ∧ L = d + 1) (inS w m i best j)
 | 0 => h.congr fun L => ⟨.inl, fun h => h.elim id fun ⟨d, h1, _⟩ => by omega⟩
 | j + 1 => by
  simp only [inS]
  refine ((inS_mi h j).step (c := (w i).a ∈ lev w m (w i).b j) (j := j + 1) (by omega)).congr fun L => ?_
  rw [mem_lev]
  constructor
  ·rintro ((h | ⟨d, h1, h2, h3⟩) | ⟨h1, rfl⟩)
   ·exact .inl h
   ·exact .inr ⟨d, by omega, h2, h3⟩
   ·exact .inr ⟨j, by omega, h1, rfl⟩
  ·rintro (h | ⟨d, h1, h2, h3⟩)
   ·exact .inl (.inl h)
   ·by_cases e : d = j
    ·subst e; exact .inr ⟨h2, h3⟩
    ·exact .inl (.inr ⟨d, by omega, h2, h3⟩)
theorem shN_mi (w : Nat → Wd) (m n : Nat) : ∀ k : Nat, Mi (Sz w m n k) (shN w m n k)
 | 0 => ⟨fun _ L ⟨i, d, h, _⟩ => by omega, fun h => absurd rfl h, fun L ⟨i, d, h, _⟩ => by omega⟩
 | k + 1 => by
  simp only [shN]
  split
  ·rename_i hk
   refine (inS_mi (shN_mi w m n k) n).congr fun L => ?_
   constructor
   ·rintro (⟨i, d, h1, h2⟩ | ⟨d, h1, h2, h3⟩)
    ·exact ⟨i, d, by omega, h2⟩
    ·exact ⟨k, d, by omega, hk, h1, h2, h3⟩
   ·rintro ⟨i, d, h1, h2, h3, h4, h5⟩
    by_cases e : i = k
    ·subst e; exact .inr ⟨d, h3, h4, h5⟩
    ·exact .inl ⟨i, d, by omega, h2, h3, h4, h5⟩
  ·rename_i hk
   refine (shN_mi w m n k).congr fun L => ?_
   constructor
   ·rintro ⟨i, d, h1, h2⟩; exact ⟨i, d, by omega, h2⟩
   ·rintro ⟨i, d, h1, h2, h3⟩
    by_cases e : i = k
    ·subst e; exact absurd h2 hk
    ·exact ⟨i, d, by omega, h2, h3⟩
def Cz (w : Nat → Wd) (m : Nat) (L : Nat) : Prop := ∃ i d, i < m ∧ (w i).k = 0 ∧ Go w m (w i).b d (w i).a ∧ L = d + 1
theorem sz_cz {w : Nat → Wd} {m n : Nat} (hf : Fit w m n) {N : Nat} (h : Mi (Sz w m n m) N) : Mi (Cz w m) N := by
 have back : ∀ L, Cz w m L → ∃ L', L' ≤ L ∧ Sz w m n m L' := by
  rintro L ⟨i, d, h1, h2, h3, h4⟩
  by_cases hd : d < n
  ·exact ⟨L, Nat.le_refl _, i, d, h1, h2, hd, h3, h4⟩
  ·obtain ⟨e, e1, e2⟩ := go_short hf (hf.b i h1) h3
   exact ⟨e + 1, by omega, i, e, h1, h2, e1, e2, rfl⟩
 refine ⟨fun h0 L hL => ?_, fun h0 => ?_, fun L hL => ?_⟩
 ·obtain ⟨L', _, h2⟩ := back L hL
  exact h.none h0 L' h2
 ·obtain ⟨i, d, h1, h2, h3, h4, h5⟩ := h.some h0
  exact ⟨i, d, h1, h2, h4, h5⟩
 ·obtain ⟨L', h1, h2⟩ := back L hL
  have := h.le L' h2
  omega
theorem short_mi {w : Nat → Wd} {m n : Nat} (hf : Fit w m n) : Mi (Cz w m) (shN w m n m) := sz_cz hf (shN_mi w m n m)
end Go.He
end
section
set_option linter.unusedSimpArgs false
set_option linter.unusedVariables false
set_option linter.defProp false
set_option maxRecDepth 100000
namespace Go.He
def stI (w : Nat → Wd) (a b : Int) : Nat → Option Nat
 | 0 => none
 | i + 1 => if (w i).k = 0 ∧ (w i).a = a ∧ (w i).b = b then some i else stI w a b i
def wkI (w : Nat → Wd) (a b : Int) : Nat → Option Nat
 | 0 => none
 | i + 1 => if (w i).k ≠ 0 ∧ (((w i).a = a ∧ (w i).b = b) ∨ ((w i).k = 1 ∧ (w i).b = a ∧ (w i).a = b)) then some i else wkI w a b i
def lkI (w : Nat → Wd) (m : Nat) (a b : Int) : Option Nat := match stI w a b m with | some i => some i | none => wkI w a b m
theorem stI_some {w : Nat → Wd} {a b : Int} {j : Nat} : ∀ {i : Nat}, stI w a b i = some j → j < i ∧ (w j).k = 0 ∧ (w j).a = a ∧ (w j).b = b
 | 0, h => by cases h
 | i + 1, h => by
  simp only [stI] at h
  split at h
  ·rename_i h1; cases h; exact ⟨by omega, h1⟩
  ·have := stI_some h; exact ⟨by omega, this.2⟩
theorem stI_none {w : Nat → Wd} {a b : Int} : ∀ {i : Nat}, stI w a b i = none → ∀ j, j < i → ¬ ((w j).k = 0 ∧ (w j).a = a ∧ (w j).b = b)
 | 0, _, j, h => by omega
 | i + 1, h, j, hj => by
  simp only [stI] at h
  split at h
  ·cases h
  ·rename_i h1
   by_cases e : j = i
   ·subst e; exact h1
   ·exact stI_none h j (by omega)
theorem wkI_some {w : Nat → Wd} {a b : Int} {j : Nat} : ∀ {i : Nat}, wkI w a b i = some j → j < i ∧ Lk (w j) a b
 | 0, h => by cases h
 | i + 1, h => by
  simp only [wkI] at h
  split at h
  ·rename_i h1; cases h; exact ⟨by omega, h1.2⟩
  ·have := wkI_some h; exact ⟨by omega, this.2⟩
theorem wkI_none {w : Nat → Wd} {a b : Int} : ∀ {i : Nat}, wkI w a b i = none → ∀ j, j < i → (w j).k ≠ 0 → ¬ Lk (w j) a b
 | 0, _, j, h => by omega
 | i + 1, h, j, hj => by
  simp only [wkI] at h
  split at h
  ·cases h
  ·rename_i h1
   by_cases e : j = i
   ·subst e; exact fun hk hl => h1 ⟨hk, hl⟩
   ·exact wkI_none h j (by omega)
theorem lkI_some {w : Nat → Wd} {m : Nat} {a b : Int} {j : Nat} (h : lkI w m a b = some j) : j < m ∧ Lk (w j) a b := by
 unfold lkI at h
 split at h
 ·rename_i i hi; cases h
  have := stI_some hi
  exact ⟨this.1, .inl this.2.2⟩
 ·exact wkI_some h
theorem lkI_none {w : Nat → Wd} {m : Nat} {a b : Int} (h : lkI w m a b = none) (j : Nat) (hj : j < m) : ¬ Lk (w j) a b := by
 unfold lkI at h
 split at h
 ·cases h
 ·rename_i hs
  intro hl
  by_cases hk : (w j).k = 0
  ·refine stI_none hs j hj ⟨hk, ?_⟩
   rcases hl with h | ⟨h1, _⟩
   ·exact h
   ·omega
  ·exact wkI_none h j hj hk hl
structure Bs where
 wait : List Nat
 ways : Nat → List Nat
 seen : Nat → Bool
def upN {α : Type} (f : Nat → α) (k : Nat) (x : α) (j : Nat) : α := if j = k then x else f j
def stp (w : Nat → Wd) (m a : Nat) (s : Bs) (b : Nat) : Bs :=
 match lkI w m a b with
 | some i => if s.seen b = false then ⟨s.wait ++ [b], upN s.ways b (s.ways a ++ [i]), upN s.seen b true⟩ else s
 | none => s
def inn (w : Nat → Wd) (m a : Nat) (s : Bs) : Nat → Bs
 | 0 => s
 | b + 1 => stp w m a (inn w m a s b) b
def pop (s : Bs) : Bs := ⟨s.wait.tail, s.ways, s.seen⟩
def nxt (w : Nat → Wd) (m n : Nat) (s : Bs) : Bs := pop (inn w m (s.wait.headD 0) s n)
def ini (x : Nat) : Bs := ⟨[x], fun _ => [], fun j => decide (j = x)⟩
def bfs (w : Nat → Wd) (m n to : Nat) : Nat → Bs → Option (List Nat)
 | 0, _ => none
 | f + 1, s => match s.wait with
  | [] => none
  | a :: _ => if a = to then some (s.ways a) else bfs w m n to f (nxt w m n s)
inductive Wy (w : Nat → Wd) (m : Nat) (x : Int) : List Nat → Int → Prop
 | nil : Wy w m x [] x
 | snoc {l : List Nat} {y z : Int} (i : Nat) (h : Wy w m x l y) (hi : i < m) (hl : Lk (w i) y z) : Wy w m x (l ++ [i]) z
theorem Wy.go {w : Nat → Wd} {m : Nat} {x y : Int} {l : List Nat} (h : Wy w m x l y) : Go w m x l.length y := by
 induction h with
 | nil => exact .nil
 | snoc i _ hi hl ih => rw [List.length_append]; exact .snoc i ih hi hl
theorem nodup_len {n : Nat} : ∀ {l : List Nat}, l.Nodup → (∀ x, x ∈ l → x < n) → l.length ≤ n := by
 intro l h1 h2
 have := inj_len (φ := id) (l := l) (m := List.range n) h1 (fun a ha => List.mem_range.2 (h2 a ha)) fun a b _ _ e => e
 rwa [List.length_range] at this
structure Bf (w : Nat → Wd) (m n x : Nat) (done : List Nat) (s : Bs) : Prop where
 nd : (done ++ s.wait).Nodup
 lt : ∀ y, y ∈ done ++ s.wait → y < n
 seen : ∀ y, s.seen y = true ↔ y ∈ done ++ s.wait
 way : ∀ y, y ∈ done ++ s.wait → Wy w m x (s.ways y) y
 src : x ∈ done ++ s.wait ∧ s.ways x = []
 out : ∀ a, a ∈ done → ∀ b i : Nat, b < n → i < m → Lk (w i) a b → b ∈ done ++ s.wait ∧ (s.ways b).length ≤ (s.ways a).length + 1
 sort : (done ++ s.wait).Pairwise fun y z => (s.ways y).length ≤ (s.ways z).length
 near : ∀ a r, s.wait = a :: r → ∀ y, y ∈ s.wait → (s.ways y).length ≤ (s.ways a).length + 1
structure Bi (w : Nat → Wd) (m n x : Nat) (done : List Nat) (a : Nat) (r : List Nat) (b : Nat) (s : Bs) : Prop where
 nd : (done ++ s.wait).Nodup
 lt : ∀ y, y ∈ done ++ s.wait → y < n
 seen : ∀ y, s.seen y = true ↔ y ∈ done ++ s.wait
 way : ∀ y, y ∈ done ++ s.wait → Wy w m x (s.ways y) y
 src : x ∈ done ++ s.wait ∧ s.ways x = []
 out : ∀ a, a ∈ done → ∀ b i : Nat, b < n → i < m → Lk (w i) a b → b ∈ done ++ s.wait ∧ (s.ways b).length ≤ (s.ways a).length + 1
 sort : (done ++ s.wait).Pairwise fun y z => (s.ways y).length ≤ (s.ways z).length
 near : ∀ y, y ∈ s.wait → (s.ways y).length ≤ (s.ways a).length + 1
 hd : ∃ r, s.wait = a :: r
 own : ∀ c i : Nat, c < b → i < m → Lk (w i) a c → c ∈ done ++ s.wait ∧ (s.ways c).length ≤ (s.ways a).length + 1
theorem bi_step {w : Nat → Wd} {m n x : Nat} {done : List Nat} {a : Nat} {r : List Nat} {b : Nat} {s : Bs} (h : Bi w m n x done a r b s) (hb : b < n) : Bi w m n x done a r (b + 1) (stp w m a s b) := by
 obtain ⟨r0, hr0⟩ := h.hd
 have ham : a ∈ done ++ s.wait := by rw [hr0]; simp
 unfold stp
 split
 ·rename_i i hi
  obtain ⟨i1, i2⟩ := lkI_some hi
  split
  ·rename_i hs
   have hbn : b ∉ done ++ s.wait := fun hm => by rw [(h.seen b).2 hm] at hs; cases hs
   have hne : ∀ y, y ∈ done ++ s.wait → y ≠ b := fun y hy e => hbn (e ▸ hy)
   have ew : ∀ y, y ∈ done ++ s.wait → upN s.ways b (s.ways a ++ [i]) y = s.ways y := fun y hy => by unfold upN; rw [if_neg (hne y hy)]
   have eb : upN s.ways b (s.ways a ++ [i]) b = s.ways a ++ [i] := by unfold upN; rw [if_pos rfl]
   have em : ∀ y, y ∈ done ++ (s.wait ++ [b]) ↔ y ∈ done ++ s.wait ∨ y = b := fun y => by
    rw [← List.append_assoc, List.mem_append, List.mem_singleton]
   refine ⟨?_, ?_, ?_, ?_, ?_, ?_, ?_, ?_, ⟨r0 ++ [b], by show s.wait ++ [b] = _; rw [hr0]; rfl⟩, ?_⟩
   ·show (done ++ (s.wait ++ [b])).Nodup
    rw [← List.append_assoc]
    refine List.nodup_append.2 ⟨h.nd, by simp, fun y hy z hz => ?_⟩
    rw [List.mem_singleton] at hz
    exact hz ▸ hne y hy
   ·intro y hy
    rcases (em y).1 hy with hy | rfl
    ·exact h.lt y hy
    ·exact hb
   ·intro y
    rw [em y, ← h.seen y]
    show upN s.seen b true y = true ↔ _
    unfold upN
    by_cases e : y = b
    ·rw [if_pos e]; simp [e]
    ·rw [if_neg e]; simp [e]
   ·intro y hy
    show Wy w m x (upN s.ways b (s.ways a ++ [i]) y) y
    rcases (em y).1 hy with hy | rfl
    ·rw [ew y hy]; exact h.way y hy
    ·rw [eb]; exact .snoc i (h.way a ham) i1 i2
   ·refine ⟨(em x).2 (.inl h.src.1), ?_⟩
    show upN s.ways b (s.ways a ++ [i]) x = []
    rw [ew x h.src.1]; exact h.src.2
   ·intro y hy c j hc hj hl
    obtain ⟨o1, o2⟩ := h.out y hy c j hc hj hl
    refine ⟨(em c).2 (.inl o1), ?_⟩
    show (upN s.ways b (s.ways a ++ [i]) c).length ≤ (upN s.ways b (s.ways a ++ [i]) y).length + 1
    rw [ew c o1, ew y (List.mem_append_left _ hy)]; exact o2
   ·show (done ++ (s.wait ++ [b])).Pairwise _
    rw [← List.append_assoc]
    refine List.pairwise_append.2 ⟨?_, by simp, ?_⟩
    ·exact h.sort.imp_of_mem fun {y z} hy hz hyz => by
      show (upN s.ways b (s.ways a ++ [i]) y).length ≤ (upN s.ways b (s.ways a ++ [i]) z).length
      rw [ew y hy, ew z hz]; exact hyz
    ·intro y hy z hz
     rw [List.mem_singleton] at hz
     subst hz
     show (upN s.ways z (s.ways a ++ [i]) y).length ≤ (upN s.ways z (s.ways a ++ [i]) z).length
     rw [ew y hy, eb, List.length_append]
     show (s.ways y).length ≤ (s.ways a).length + 1
     rcases List.mem_append.1 hy with hy | hy
     ·have := (List.pairwise_append.1 h.sort).2.2 y hy a (by rw [hr0]; simp)
      omega
     ·exact h.near y hy
   ·intro y hy
    show (upN s.ways b (s.ways a ++ [i]) y).length ≤ (upN s.ways b (s.ways a ++ [i]) a).length + 1
    rw [ew a ham]
    rcases List.mem_append.1 hy with hy | hy
    ·rw [ew y (List.mem_append_right _ hy)]; exact h.near y hy
    ·rw [List.mem_singleton] at hy
     subst hy
     rw [eb, List.length_append]; exact Nat.le_refl _
   ·intro c j hc hj hl
    show c ∈ done ++ (s.wait ++ [b]) ∧ (upN s.ways b (s.ways a ++ [i]) c).length ≤ (upN s.ways b (s.ways a ++ [i]) a).length + 1
    rw [ew a ham]
    by_cases e : c = b
    ·subst e
     rw [eb, List.length_append]
     exact ⟨(em c).2 (.inr rfl), Nat.le_refl _⟩
    ·obtain ⟨o1, o2⟩ := h.own c j (by omega) hj hl
     rw [ew c o1]
     exact ⟨(em c).2 (.inl o1), o2⟩
  ·rename_i hs
   have hbm : b ∈ done ++ s.wait := (h.seen b).1 (by cases hh : s.seen b with | true => rfl | false => exact absurd hh hs)
   refine ⟨h.nd, h.lt, h.seen, h.way, h.src, h.out, h.sort, h.near, h.hd, fun c j hc hj hl => ?_⟩
   by_cases e : c = b
   ·subst e
    refine ⟨hbm, ?_⟩
    rcases List.mem_append.1 hbm with hb2 | hb2
    ·have := (List.pairwise_append.1 h.sort).2.2 c hb2 a (by rw [hr0]; simp)
     omega
    ·exact h.near c hb2
   ·exact h.own c j (by omega) hj hl
 ·rename_i hi
  refine ⟨h.nd, h.lt, h.seen, h.way, h.src, h.out, h.sort, h.near, h.hd, fun c j hc hj hl => ?_⟩
  by_cases e : c = b
  ·subst e; exact absurd hl (lkI_none hi j hj)
  ·exact h.own c j (by omega) hj hl
theorem bi_inn {w : Nat → Wd} {m n x : Nat} {done : List Nat} {a : Nat} {r : List Nat} {s : Bs} (h : Bi w m n x done a r 0 s) : ∀ {b : Nat}, b ≤ n → Bi w m n x done a r b (inn w m a s b)
 | 0, _ => h
 | b + 1, hb => bi_step (bi_inn h (b := b) (by omega)) (by omega)
theorem bf_next {w : Nat → Wd} {m n x : Nat} {done : List Nat} {s : Bs} {a : Nat} {r : List Nat} (h : Bf w m n x done s) (hw : s.wait = a :: r) : Bf w m n x (done ++ [a]) (nxt w m n s) := by
 have h0 : Bi w m n x done a r 0 s := ⟨h.nd, h.lt, h.seen, h.way, h.src, h.out, h.sort, h.near a r hw, ⟨r, hw⟩, fun c i hc => by omega⟩
 have h1 := bi_inn h0 (b := n) (Nat.le_refl n)
 have eh : s.wait.headD 0 = a := by rw [hw]; rfl
 unfold nxt
 rw [eh]
 generalize inn w m a s n = s' at *
 obtain ⟨r', hr'⟩ := h1.hd
 have ew : (pop s').wait = r' := by unfold pop; rw [hr']; rfl
 have ea : done ++ [a] ++ (pop s').wait = done ++ s'.wait := by rw [ew, hr']; simp
 have ham : a ∈ done ++ s'.wait := by rw [hr']; simp
 refine ⟨by rw [ea]; exact h1.nd, by rw [ea]; exact h1.lt, by rw [ea]; exact h1.seen, by rw [ea]; exact h1.way, by rw [ea]; exact h1.src, ?_, by rw [ea]; exact h1.sort, ?_⟩
 ·intro c hc b i hb hi hl
  rw [ea]
  rcases List.mem_append.1 hc with hc | hc
  ·exact h1.out c hc b i hb hi hl
  ·rw [List.mem_singleton] at hc
   subst hc
   exact h1.own b i hb hi hl
 ·intro c r2 hc y hy
  rw [ew] at hc hy
  show (s'.ways y).length ≤ (s'.ways c).length + 1
  have hy2 := h1.near y (by rw [hr']; exact List.mem_cons_of_mem _ hy)
  have hs := h1.sort
  rw [hr', hc] at hs
  have := (List.pairwise_append.1 hs).2.1
  rw [List.pairwise_cons] at this
  have := this.1 c (by simp)
  omega
theorem bf_ini {w : Nat → Wd} {m n x : Nat} (hx : x < n) : Bf w m n x [] (ini x) := by
 unfold ini
 refine ⟨by simp, fun y hy => ?_, fun y => by simp, fun y hy => ?_, ⟨by simp, rfl⟩, fun a ha => ?_, by simp, fun a r h y hy => Nat.zero_le _⟩
 ·have : y = x := by simpa using hy
  omega
 ·have : y = x := by simpa using hy
  subst this; exact .nil
 ·cases ha
theorem bf_found {w : Nat → Wd} {m n x to : Nat} {done : List Nat} {s : Bs} {r : List Nat} (hf : Fit w m n) (h : Bf w m n x done s) (hw : s.wait = to :: r) {d : Nat} (hg : Go w m x d to) : (s.ways to).length ≤ d := by
 refine Nat.le_of_not_lt fun hlt => ?_
 have key : ∀ d (y : Int), Go w m x d y → d < (s.ways to).length → ∃ k : Nat, y = k ∧ k ∈ done ∧ (s.ways k).length ≤ d := by
  intro d y hg
  have inD : ∀ k : Nat, k ∈ done ++ s.wait → (s.ways k).length < (s.ways to).length → k ∈ done := by
   intro k hk hlt
   rcases List.mem_append.1 hk with hk | hk
   ·exact hk
   ·have hs := (List.pairwise_append.1 h.sort).2.1
    rw [hw] at hs hk
    rw [List.pairwise_cons] at hs
    rcases List.mem_cons.1 hk with rfl | hk
    ·omega
    ·have := hs.1 k hk; omega
  induction hg with
  | nil =>
   intro hlt
   refine ⟨x, rfl, inD x h.src.1 (by rw [h.src.2]; exact hlt), by rw [h.src.2]; exact Nat.le_refl _⟩
  | snoc i hg hi hl ih =>
   rename_i d y z
   intro hlt
   obtain ⟨k, rfl, k1, k2⟩ := ih (by omega)
   have hz := (hl.in hf hi).2
   obtain ⟨c, rfl⟩ : ∃ c : Nat, z = c := ⟨z.toNat, by omega⟩
   obtain ⟨o1, o2⟩ := h.out k k1 c i (by omega) hi hl
   exact ⟨c, rfl, inD c o1 (by omega), by omega⟩
 obtain ⟨k, e, k1, _⟩ := key d to hg hlt
 have e : to = k := by omega
 subst e
 have := (List.nodup_append.1 h.nd).2.2 to k1 to (by rw [hw]; simp)
 exact this rfl
theorem bf_none {w : Nat → Wd} {m n x to : Nat} {done : List Nat} {s : Bs} (hf : Fit w m n) (h : Bf w m n x done s) (hw : s.wait = []) (hto : to ∉ done) {d : Nat} : ¬ Go w m x d to := by
 intro hg
 have key : ∀ d (y : Int), Go w m x d y → ∃ k : Nat, y = k ∧ k ∈ done := by
  intro d y hg
  induction hg with
  | nil => exact ⟨x, rfl, by have := h.src.1; rwa [hw, List.append_nil] at this⟩
  | snoc i hg hi hl ih =>
   rename_i d y z
   obtain ⟨k, rfl, k1⟩ := ih
   have hz := (hl.in hf hi).2
   obtain ⟨c, rfl⟩ : ∃ c : Nat, z = c := ⟨z.toNat, by omega⟩
   obtain ⟨o1, _⟩ := h.out k k1 c i (by omega) hi hl
   exact ⟨c, rfl, by rwa [hw, List.append_nil] at o1⟩
 obtain ⟨k, e, k1⟩ := key d to hg
 have e : to = k := by omega
 subst e
 exact hto k1
theorem bf_len {w : Nat → Wd} {m n x : Nat} {done : List Nat} {s : Bs} (h : Bf w m n x done s) : done.length + s.wait.length ≤ n := by
 have := nodup_len h.nd h.lt
 rwa [List.length_append] at this
theorem bfs_ok {w : Nat → Wd} {m n x to : Nat} (hf : Fit w m n) : ∀ (f : Nat) (done : List Nat) (s : Bs), Bf w m n x done s → to ∉ done → n < done.length + f → (∀ l, bfs w m n to f s = some l → Wy w m x l to ∧ ∀ d, Go w m x d to → l.length ≤ d) ∧ (bfs w m n to f s = none → ∀ d, ¬ Go w m x d to)
 | 0, done, s, h, hto, hn => by have := bf_len h; omega
 | f + 1, done, s, h, hto, hn => by
  simp only [bfs]
  split
  ·rename_i hw
   exact ⟨fun l e => by (cases e), fun _ d => bf_none hf h hw hto⟩
  ·rename_i a r hw
   split
   ·rename_i e
    subst e
    refine ⟨fun l e => ?_, fun e => by cases e⟩
    cases e
    exact ⟨h.way a (by rw [hw]; simp), fun d hg => bf_found hf h hw hg⟩
   ·rename_i e
    have hto' : to ∉ done ++ [a] := by
     rw [List.mem_append, List.mem_singleton]
     rintro (h2 | h2)
     ·exact hto h2
     ·exact e h2.symm
    exact bfs_ok hf f (done ++ [a]) _ (bf_next h hw) hto' (by rw [List.length_append]; show n < done.length + 1 + f; omega)
def way (w : Nat → Wd) (m n x to : Nat) : Option (List Nat) := bfs w m n to (n + 1) (ini x)
theorem way_some {w : Nat → Wd} {m n x to : Nat} (hf : Fit w m n) (hx : x < n) {l : List Nat} (h : way w m n x to = some l) : Wy w m x l to ∧ ∀ d, Go w m x d to → l.length ≤ d :=
 (bfs_ok hf (n + 1) [] (ini x) (bf_ini hx) (by simp) (by simp)).1 l h
theorem way_none {w : Nat → Wd} {m n x to : Nat} (hf : Fit w m n) (hx : x < n) (h : way w m n x to = none) : ∀ d, ¬ Go w m x d to :=
 (bfs_ok hf (n + 1) [] (ini x) (bf_ini hx) (by simp) (by simp)).2 h
end Go.He
end
section
set_option linter.unusedSimpArgs false
set_option linter.unusedVariables false
set_option linter.defProp false
set_option maxRecDepth 100000
namespace Go.He
def cstep (w : Nat → Wd) (m n one : Nat) (best : List Nat) (two : Nat) : List Nat :=
 match stI w one two m with
 | none => best
 | some i => match way w m n two one with
  | none => best
  | some l => if best ≠ [] ∧ best.length ≤ l.length + 1 then best else i :: l
def cI (w : Nat → Wd) (m n one : Nat) (best : List Nat) : Nat → List Nat
 | 0 => best
 | t + 1 => cstep w m n one (cI w m n one best t) t
def cO (w : Nat → Wd) (m n : Nat) : Nat → List Nat
 | 0 => []
 | o + 1 => cI w m n o (cO w m n o) n
theorem Wy.cons {w : Nat → Wd} {m : Nat} {x y z : Int} {l : List Nat} {i : Nat} (hi : i < m) (hl : Lk (w i) x y) (h : Wy w m y l z) : Wy w m x (i :: l) z := by
 induction h with
 | nil => exact .snoc (l := []) i .nil hi hl
 | snoc j _ hj hl2 ih => exact .snoc (l := i :: _) j ih hj hl2
theorem Wy.lt {w : Nat → Wd} {m : Nat} {x y : Int} {l : List Nat} (h : Wy w m x l y) : ∀ j, j ∈ l → j < m := by
 induction h with
 | nil => intro j hj; cases hj
 | snoc i _ hi _ ih =>
  intro j hj
  rw [List.mem_append, List.mem_singleton] at hj
  rcases hj with hj | rfl
  ·exact ih j hj
  ·exact hi
theorem fol_congr {w : Nat → Wd} {c d : Nat → Int} {r : Int} : ∀ {j : Nat}, (∀ i, i < j → c i = d i) → fol w c r j = fol w d r j
 | 0, _ => rfl
 | j + 1, h => by
  simp only [fol]
  rw [fol_congr (j := j) fun i hi => h i (by omega), h j (by omega)]
def cF (l : List Nat) (j : Nat) : Int := (l.getD j 0 : Nat)
theorem Wy.fol {w : Nat → Wd} {m : Nat} {x y : Int} {l : List Nat} (h : Wy w m x l y) : y ∈ fol w (cF l) x l.length := by
 induction h with
 | nil => simp [Go.He.fol]
 | snoc i h hi hl ih =>
  rename_i l y z
  rw [List.length_append]
  show z ∈ lnk (w (cF (l ++ [i]) l.length).toNat) (Go.He.fol w (cF (l ++ [i])) x l.length)
  have e : cF (l ++ [i]) l.length = i := by unfold cF; simp [List.getD_eq_getElem?_getD]
  rw [e, Int.toNat_natCast, fol_congr (d := cF l) fun j hj => by unfold cF; rw [List.getD_eq_getElem?_getD, List.getD_eq_getElem?_getD, List.getElem?_append_left hj], mem_lnk]
  exact ⟨y, ih, hl⟩
structure Cc (w : Nat → Wd) (m n : Nat) (c : List Nat) : Prop where
 ex : ∃ i l, c = i :: l ∧ i < m ∧ (w i).k = 0 ∧ Wy w m (w i).b l (w i).a
def Pz (w : Nat → Wd) (m : Nat) (S : Nat → Nat → Prop) (L : Nat) : Prop := ∃ one two i d : Nat, S one two ∧ i < m ∧ (w i).k = 0 ∧ (w i).a = one ∧ (w i).b = two ∧ Go w m (w i).b d (w i).a ∧ L = d + 1
structure Bt (w : Nat → Wd) (m n : Nat) (S : Nat → Nat → Prop) (best : List Nat) : Prop where
 mi : Mi (Pz w m S) best.length
 ok : best ≠ [] → Cc w m n best
theorem bt_step {w : Nat → Wd} {m n : Nat} (hf : Fit w m n) {S : Nat → Nat → Prop} {best : List Nat} {one two : Nat} (h1 : one < n) (h2 : two < n) (h : Bt w m n S best) : Bt w m n (fun a b => S a b ∨ (a = one ∧ b = two)) (cstep w m n one best two) := by
 have keep : (∀ i d : Nat, i < m → (w i).k = 0 → (w i).a = one → (w i).b = two → Go w m (w i).b d (w i).a → best ≠ [] ∧ best.length ≤ d + 1) → Bt w m n (fun a b => S a b ∨ (a = one ∧ b = two)) best := by
  intro hk
  refine ⟨⟨fun h0 L => ?_, fun h0 => ?_, fun L => ?_⟩, h.ok⟩
  ·rintro ⟨a, b, i, d, hS | ⟨rfl, rfl⟩, p1, p2, p3, p4, p5, p6⟩
   ·exact h.mi.none h0 L ⟨a, b, i, d, hS, p1, p2, p3, p4, p5, p6⟩
   ·exact (hk i d p1 p2 p3 p4 p5).1 (List.length_eq_zero_iff.1 h0)
  ·obtain ⟨a, b, i, d, hS, p⟩ := h.mi.some h0
   exact ⟨a, b, i, d, .inl hS, p⟩
  ·rintro ⟨a, b, i, d, hS | ⟨rfl, rfl⟩, p1, p2, p3, p4, p5, p6⟩
   ·exact h.mi.le L ⟨a, b, i, d, hS, p1, p2, p3, p4, p5, p6⟩
   ·have := (hk i d p1 p2 p3 p4 p5).2; omega
 unfold cstep
 split
 ·rename_i hs
  exact keep fun i d p1 p2 p3 p4 _ => absurd ⟨p2, p3, p4⟩ (stI_none hs i p1)
 ·rename_i i hs
  have ⟨s1, s2, s3, s4⟩ := stI_some hs
  split
  ·rename_i hw
   exact keep fun j d p1 p2 p3 p4 p5 => absurd (by rw [p3, p4] at p5; exact p5) (way_none hf h2 hw d)
  ·rename_i l hw
   obtain ⟨w1, w2⟩ := way_some hf h2 hw
   split
   ·rename_i hb
    exact keep fun j d p1 p2 p3 p4 p5 => ⟨hb.1, by rw [p3, p4] at p5; have := w2 d p5; omega⟩
   ·rename_i hb
    have hlen : best = [] ∨ l.length + 1 < best.length := by
     by_cases e : best = []
     ·exact .inl e
     ·exact .inr (Nat.lt_of_not_le fun h => hb ⟨e, h⟩)
    have hcc : Cc w m n (i :: l) := ⟨i, l, rfl, s1, s2, by rw [s3, s4]; exact w1⟩
    refine ⟨⟨fun h0 => by simp at h0, fun _ => ⟨one, two, i, l.length, .inr ⟨rfl, rfl⟩, s1, s2, s3, s4, by rw [s3, s4]; exact w1.go, rfl⟩, fun L => ?_⟩, fun _ => hcc⟩
    show _ → l.length + 1 ≤ L
    rintro ⟨a, b, j, d, hS | ⟨rfl, rfl⟩, p1, p2, p3, p4, p5, p6⟩
    ·rcases hlen with rfl | hlen
     ·exact absurd ⟨a, b, j, d, hS, p1, p2, p3, p4, p5, p6⟩ (h.mi.none rfl L)
     ·have := h.mi.le L ⟨a, b, j, d, hS, p1, p2, p3, p4, p5, p6⟩; omega
    ·rw [p3, p4] at p5
     have := w2 d p5; omega
theorem Bt.congr {w : Nat → Wd} {m n : Nat} {S T : Nat → Nat → Prop} {best : List Nat} (h : Bt w m n S best) (e : ∀ a b, S a b ↔ T a b) : Bt w m n T best :=
 ⟨h.mi.congr fun L => ⟨fun ⟨a, b, i, d, hS, p⟩ => ⟨a, b, i, d, (e a b).1 hS, p⟩, fun ⟨a, b, i, d, hS, p⟩ => ⟨a, b, i, d, (e a b).2 hS, p⟩⟩, h.ok⟩
theorem bt_cI {w : Nat → Wd} {m n : Nat} (hf : Fit w m n) {S : Nat → Nat → Prop} {best : List Nat} {one : Nat} (h1 : one < n) (h : Bt w m n S best) : ∀ {t : Nat}, t ≤ n → Bt w m n (fun a b => S a b ∨ (a = one ∧ b < t)) (cI w m n one best t)
 | 0, _ => h.congr fun a b => ⟨.inl, fun h => h.elim id fun h => by omega⟩
 | t + 1, ht => (bt_step hf h1 (by omega) (bt_cI hf h1 h (t := t) (by omega))).congr fun a b => by
  constructor
  ·rintro ((h | ⟨h2, h3⟩) | ⟨h2, h3⟩)
   ·exact .inl h
   ·exact .inr ⟨h2, by omega⟩
   ·exact .inr ⟨h2, by omega⟩
  ·rintro (h | ⟨h2, h3⟩)
   ·exact .inl (.inl h)
   ·by_cases e : b = t
    ·exact .inr ⟨h2, e⟩
    ·exact .inl (.inr ⟨h2, by omega⟩)
theorem bt_cO {w : Nat → Wd} {m n : Nat} (hf : Fit w m n) : ∀ {o : Nat}, o ≤ n → Bt w m n (fun a b => a < o ∧ b < n) (cO w m n o)
 | 0, _ => ⟨⟨fun _ L ⟨a, b, i, d, hS, _⟩ => by omega, fun h => absurd rfl h, fun L ⟨a, b, i, d, hS, _⟩ => by omega⟩, fun h => absurd rfl h⟩
 | o + 1, ho => (bt_cI hf (by omega) (bt_cO hf (o := o) (by omega)) (Nat.le_refl n)).congr fun a b => by
  constructor
  ·rintro (⟨h2, h3⟩ | ⟨h2, h3⟩) <;> exact ⟨by omega, h3⟩
  ·rintro ⟨h2, h3⟩
   by_cases e : a = o
   ·exact .inr ⟨e, h3⟩
   ·exact .inl ⟨by omega, h3⟩
theorem cO_len {w : Nat → Wd} {m n : Nat} (hf : Fit w m n) : (cO w m n n).length = shN w m n m := by
 have h := bt_cO hf (Nat.le_refl n)
 refine Mi.uniq (h.mi.congr fun L => ?_) (short_mi hf)
 constructor
 ·rintro ⟨a, b, i, d, _, p1, p2, p3, p4, p5, p6⟩; exact ⟨i, d, p1, p2, p5, p6⟩
 ·rintro ⟨i, d, p1, p2, p5, p6⟩
  have a := hf.a i p1
  have b := hf.b i p1
  exact ⟨(w i).a.toNat, (w i).b.toNat, i, d, ⟨by omega, by omega⟩, p1, p2, by omega, by omega, p5, p6⟩
theorem cstep_two {w : Nat → Wd} {m n : Nat} (hf : Fit w m n) {best : List Nat} (hb : best.length = 2) {one two : Nat} (h2 : two < n) : cstep w m n one best two = best := by
 unfold cstep
 split
 ·rfl
 ·rename_i i hs
  have ⟨s1, s2, s3, s4⟩ := stI_some hs
  split
  ·rfl
  ·rename_i l hw
   obtain ⟨w1, _⟩ := way_some hf h2 hw
   have hne := hf.ne i s1
   rw [if_pos]
   refine ⟨fun e => (by rw [e] at hb; cases hb), ?_⟩
   cases w1 with
   | nil => exact absurd (s3.trans (s4.symm)) hne
   | snoc j _ _ _ => rw [List.length_append]; simp; omega
theorem cI_two {w : Nat → Wd} {m n : Nat} (hf : Fit w m n) {best : List Nat} {one t : Nat} (hb : (cI w m n one best t).length = 2) : ∀ {u : Nat}, t ≤ u → u ≤ n → cI w m n one best u = cI w m n one best t
 | 0, h, _ => by
  obtain rfl : t = 0 := by omega
  rfl
 | u + 1, h, hu => by
  by_cases e : t = u + 1
  ·rw [e]
  ·have ih := cI_two hf hb (u := u) (by omega) (by omega)
   show cstep w m n one (cI w m n one best u) u = _
   rw [ih]; exact cstep_two hf hb (by omega)
theorem cO_two {w : Nat → Wd} {m n : Nat} (hf : Fit w m n) {o : Nat} (hb : (cO w m n o).length = 2) : ∀ {u : Nat}, o ≤ u → u ≤ n → cO w m n u = cO w m n o
 | 0, h, _ => by
  obtain rfl : o = 0 := by omega
  rfl
 | u + 1, h, hu => by
  by_cases e : o = u + 1
  ·rw [e]
  ·have ih := cO_two hf hb (u := u) (by omega) (by omega)
   show cI w m n u (cO w m n u) n = _
   rw [ih]
   exact cI_two hf (t := 0) hb (Nat.zero_le _) (Nat.le_refl _)
end Go.He
end
section
set_option linter.unusedSimpArgs false
set_option linter.unusedVariables false
set_option linter.defProp false
set_option maxRecDepth 100000
namespace Go.He
structure Inc (l : List Nat) (f b : Nat) : Prop where
 p : l.Pairwise (· < ·)
 m : ∀ x, x ∈ l → f ≤ x ∧ x < b
def Hits (ms l : List Nat) : Prop := ∀ k, k ∈ ms → ∃ a, a ∈ l ∧ k.testBit a = true
def lexLt : List Nat → List Nat → Bool
 | a :: l, b :: m => if a = b then lexLt l m else decide (a < b)
 | _, _ => false
theorem Inc.cons {a : Nat} {l : List Nat} {f b : Nat} : Inc (a :: l) f b ↔ f ≤ a ∧ a < b ∧ Inc l (a + 1) b := by
 constructor
 ·intro h
  have h1 := List.pairwise_cons.1 h.p
  have h2 := h.m a (by simp)
  exact ⟨h2.1, h2.2, h1.2, fun x hx => ⟨h1.1 x hx, (h.m x (by simp [hx])).2⟩⟩
 ·rintro ⟨h1, h2, h3⟩
  refine ⟨List.pairwise_cons.2 ⟨fun x hx => (h3.m x hx).1, h3.p⟩, fun x hx => ?_⟩
  rcases List.mem_cons.1 hx with rfl | hx
  ·exact ⟨h1, h2⟩
  ·have := h3.m x hx; omega
theorem Inc.len {f b : Nat} : ∀ {l : List Nat}, Inc l f b → l ≠ [] → f + l.length ≤ b
 | [], _, h => absurd rfl h
 | [a], h, _ => by
  obtain ⟨h1, h2, _⟩ := Inc.cons.1 h
  show f + 1 ≤ b; omega
 | a :: c :: l, h, _ => by
  obtain ⟨h1, h2, h3⟩ := Inc.cons.1 h
  have := Inc.len h3 (by simp)
  simp only [List.length_cons] at *
  omega
def upTo (f : Nat) : Nat → List Nat
 | 0 => []
 | k + 1 => f :: upTo (f + 1) k
theorem upTo_len : ∀ (k f : Nat), (upTo f k).length = k
 | 0, _ => rfl
 | k + 1, f => by simp only [upTo, List.length_cons, upTo_len k]
theorem upTo_inc : ∀ (k f b : Nat), f + k ≤ b → Inc (upTo f k) f b
 | 0, f, b, _ => ⟨List.Pairwise.nil, fun x hx => by cases hx⟩
 | k + 1, f, b, h => Inc.cons.2 ⟨Nat.le_refl _, by omega, upTo_inc k (f + 1) b (by omega)⟩
theorem upTo_least : ∀ (k f b : Nat) (l : List Nat), Inc l f b → l.length = k → lexLt l (upTo f k) = false
 | 0, f, b, l, _, h => by rw [List.length_eq_zero_iff.1 h]; rfl
 | k + 1, f, b, [], _, h => by cases h
 | k + 1, f, b, a :: l, h, hl => by
  obtain ⟨h1, h2, h3⟩ := Inc.cons.1 h
  simp only [upTo, lexLt]
  split
  ·rename_i e; subst e
   exact upTo_least k (a + 1) b l h3 (by simpa using hl)
  ·simp; omega
def hitL (f : Nat → List Nat × Bool) : Nat → Nat → List Nat × Bool
 | _, 0 => ([], false)
 | i, k + 1 => if (f i).2 = true then (i :: (f i).1, true) else hitL f (i + 1) k
def hitV : Nat → List Nat → Nat → Nat → List Nat × Bool
 | many, [], f, b => (upTo f many, decide (f + many ≤ b))
 | 0, _ :: _, _, _ => ([], false)
 | many + 1, k :: ms, f, b => hitL (fun i => hitV many ((k :: ms).filter fun x => !x.testBit i) (i + 1) b) f (b - f)
structure Fd (many : Nat) (ms : List Nat) (f b : Nat) (r : List Nat × Bool) : Prop where
 inc : r.2 = true → Inc r.1 f b ∧ r.1.length = many ∧ Hits ms r.1
 least : r.2 = true → ∀ l, Inc l f b → l.length = many → Hits ms l → lexLt l r.1 = false
 none : r.2 = false → ∀ l, Inc l f b → l.length = many → ¬ Hits ms l
theorem hitL_fd {many : Nat} {ms : List Nat} {b : Nat} {g : Nat → List Nat × Bool} (hg : ∀ i, i < b → Fd many (ms.filter fun x => !x.testBit i) (i + 1) b (g i)) : ∀ (k f : Nat), b ≤ f + k → (b - f = k) → Fd (many + 1) ms f b (hitL g f k)
 | 0, f, h, _ => by
  refine ⟨fun h => (by cases h), fun h => (by cases h), fun _ l hl hlen => ?_⟩
  cases l with
  | nil => cases hlen
  | cons a l => obtain ⟨h1, h2, _⟩ := Inc.cons.1 hl; omega
 | k + 1, f, h, hk => by
  have ih := hitL_fd hg k (f + 1) (by omega) (by omega)
  have hf := hg f (by omega)
  have split1 : ∀ (a : Nat) (l : List Nat), Hits ms (a :: l) → Hits (ms.filter fun x => !x.testBit a) l := by
   intro a l hh x hx
   rw [List.mem_filter] at hx
   obtain ⟨c, c1, c2⟩ := hh x hx.1
   rcases List.mem_cons.1 c1 with rfl | c1
   ·rw [c2] at hx; cases hx.2
   ·exact ⟨c, c1, c2⟩
  have split2 : ∀ (a : Nat) (l : List Nat), Hits (ms.filter fun x => !x.testBit a) l → Hits ms (a :: l) := by
   intro a l hh x hx
   cases hb : x.testBit a with
   | true => exact ⟨a, by simp, hb⟩
   | false =>
    obtain ⟨c, c1, c2⟩ := hh x (List.mem_filter.2 ⟨hx, by simp [hb]⟩)
    exact ⟨c, by simp [c1], c2⟩
  simp only [hitL]
  split
  ·rename_i hr
   obtain ⟨p1, p2, p3⟩ := hf.inc hr
   refine ⟨fun _ => ⟨Inc.cons.2 ⟨Nat.le_refl _, by omega, p1⟩, by simp [p2], split2 f _ p3⟩, fun _ l hl hlen hh => ?_, fun h => (by cases h)⟩
   cases l with
   | nil => cases hlen
   | cons a l =>
    obtain ⟨h1, h2, h3⟩ := Inc.cons.1 hl
    simp only [lexLt]
    split
    ·rename_i e; subst e
     exact hf.least hr l h3 (by simpa using hlen) (split1 a l hh)
    ·simp; omega
  ·rename_i hr
   have hr : (g f).2 = false := by cases hx : (g f).2 with | false => rfl | true => exact absurd hx hr
   have nof : ∀ a l, Inc (a :: l) f b → (a :: l).length = many + 1 → Hits ms (a :: l) → f + 1 ≤ a := by
    intro a l hl hlen hh
    obtain ⟨h1, h2, h3⟩ := Inc.cons.1 hl
    refine Nat.lt_of_le_of_ne h1 fun e => ?_
    subst e
    exact hf.none hr l h3 (by simpa using hlen) (split1 f l hh)
   have mv : ∀ l, Inc l f b → l.length = many + 1 → Hits ms l → Inc l (f + 1) b := by
    intro l hl hlen hh
    cases l with
    | nil => cases hlen
    | cons a l =>
     have := nof a l hl hlen hh
     obtain ⟨h1, h2, h3⟩ := Inc.cons.1 hl
     exact Inc.cons.2 ⟨this, h2, h3⟩
   refine ⟨fun h => ?_, fun h l hl hlen hh => ih.least h l (mv l hl hlen hh) hlen hh, fun h l hl hlen hh => ih.none h l (mv l hl hlen hh) hlen hh⟩
   obtain ⟨q1, q2, q3⟩ := ih.inc h
   exact ⟨⟨q1.p, fun x hx => by have := q1.m x hx; omega⟩, q2, q3⟩
theorem hit_fd : ∀ (many : Nat) (ms : List Nat) (f b : Nat), f ≤ b → Fd many ms f b (hitV many ms f b)
 | many, [], f, b, hfb => by
  simp only [hitV]
  refine ⟨fun h => ?_, fun _ l hl hlen _ => upTo_least many f b l hl hlen, fun h l hl hlen _ => ?_⟩
  ·have : f + many ≤ b := by simpa using h
   exact ⟨upTo_inc many f b this, upTo_len many f, fun k hk => by cases hk⟩
  ·have : ¬ f + many ≤ b := by simpa using h
   by_cases e : l = []
   ·subst e
    have e0 : many = 0 := hlen.symm
    omega
   ·have := hl.len e
    omega
 | 0, k :: ms, f, b, hfb => by
  simp only [hitV]
  refine ⟨fun h => (by cases h), fun h => (by cases h), fun _ l hl hlen hh => ?_⟩
  obtain ⟨a, ha, _⟩ := hh k (by simp)
  rw [List.length_eq_zero_iff.1 hlen] at ha
  cases ha
 | many + 1, k :: ms, f, b, hfb => by
  simp only [hitV]
  exact hitL_fd (fun i hi => hit_fd many _ (i + 1) b (by omega)) (b - f) f (by omega) rfl
end Go.He
end
section
set_option linter.unusedSimpArgs false
set_option linter.unusedVariables false
set_option linter.defProp false
set_option maxRecDepth 100000
namespace Go.He
def befo (a b : List Nat) : Bool := if a.length = b.length then lexLt a b else decide (a.length < b.length)
theorem mem_upTo : ∀ {k f x : Nat}, x ∈ upTo f k ↔ f ≤ x ∧ x < f + k
 | 0, f, x => by simp only [upTo, List.not_mem_nil, false_iff]; omega
 | k + 1, f, x => by
  simp only [upTo, List.mem_cons, mem_upTo (k := k)]
  omega
def baseG (ms : List Nat) (m : Nat) : Nat → Nat → List Nat
 | _, 0 => upTo 0 m
 | many, k + 1 => if (hitV many ms 0 m).2 = true then (hitV many ms 0 m).1 else baseG ms m (many + 1) k
def baseP (ms : List Nat) (m : Nat) : List Nat := baseG ms m 0 m
structure Bst (ms : List Nat) (m : Nat) (r : List Nat) : Prop where
 inc : Inc r 0 m
 hit : Hits ms r
 least : ∀ l, Inc l 0 m → Hits ms l → befo l r = false
theorem baseG_ok {ms : List Nat} {m : Nat} (hm : ∀ x, x ∈ ms → ∃ i, i < m ∧ x.testBit i = true) : ∀ (k many : Nat), many + k = m → (∀ l, Inc l 0 m → Hits ms l → many ≤ l.length) → Bst ms m (baseG ms m many k)
 | 0, many, h, hl => by
  simp only [baseG]
  refine ⟨upTo_inc m 0 m (by omega), fun x hx => ?_, fun l h1 h2 => ?_⟩
  ·obtain ⟨i, i1, i2⟩ := hm x hx
   exact ⟨i, mem_upTo.2 (by omega), i2⟩
  ·have a := hl l h1 h2
   have b : l.length ≤ m := by
    by_cases e : l = []
    ·rw [e]; exact Nat.zero_le _
    ·have := h1.len e; omega
   unfold befo
   rw [upTo_len, if_pos (by omega)]
   exact upTo_least m 0 m l h1 (by omega)
 | k + 1, many, h, hl => by
  simp only [baseG]
  have hf := hit_fd many ms 0 m (Nat.zero_le _)
  split
  ·rename_i hr
   obtain ⟨a, b, c⟩ := hf.inc hr
   refine ⟨a, c, fun l h1 h2 => ?_⟩
   have := hl l h1 h2
   unfold befo
   split
   ·rename_i e
    exact hf.least hr l h1 (by omega) h2
   ·simp; omega
  ·rename_i hr
   have hr : (hitV many ms 0 m).2 = false := by cases hx : (hitV many ms 0 m).2 with | false => rfl | true => exact absurd hx hr
   refine baseG_ok hm k (many + 1) (by omega) fun l h1 h2 => ?_
   have := hl l h1 h2
   refine Nat.lt_of_le_of_ne this fun e => ?_
   exact hf.none hr l h1 e.symm h2
theorem baseP_ok {ms : List Nat} {m : Nat} (hm : ∀ x, x ∈ ms → ∃ i, i < m ∧ x.testBit i = true) : Bst ms m (baseP ms m) :=
 baseG_ok hm m 0 (by omega) fun _ _ _ => Nat.zero_le _
theorem bit_some {x m : Nat} (h0 : x ≠ 0) (hx : x < 2 ^ m) : ∃ i, i < m ∧ x.testBit i = true := by
 obtain ⟨i, hi⟩ := Nat.exists_testBit_of_ne_zero h0
 refine ⟨i, Nat.lt_of_not_le fun h => ?_, hi⟩
 rw [Nat.testBit_lt_two_pow (Nat.lt_of_lt_of_le hx (Nat.pow_le_pow_right (by omega) h))] at hi
 cases hi
end Go.He
end
section
set_option linter.unusedSimpArgs false
set_option linter.unusedVariables false
set_option linter.defProp false
set_option maxRecDepth 100000
namespace Go.He
theorem enc_congr {n : Nat} {f g : Nat → Nat} : ∀ {j : Nat}, (∀ i, i < j → f i = g i) → enc n f j = enc n g j
 | 0, _ => rfl
 | j + 1, h => by simp only [enc]; rw [enc_congr (j := j) fun i hi => h i (by omega), h j (by omega)]
theorem enc_dg {n : Nat} : ∀ (j t : Nat), enc n (dg n j t) j = t % n ^ j
 | 0, t => by simp [enc, Nat.mod_one]
 | j + 1, t => by
  simp only [enc]
  have e1 : ∀ i, i < j → dg n (j + 1) t i = dg n j (t / n) i := fun i hi => by
   unfold dg
   rw [show j + 1 - 1 - i = (j - 1 - i) + 1 by omega, Nat.pow_succ, Nat.mul_comm (n ^ (j - 1 - i)) n, ← Nat.div_div_eq_div_mul]
  have e2 : dg n (j + 1) t j = t % n := by
   unfold dg
   rw [show j + 1 - 1 - j = 0 by omega, Nat.pow_zero, Nat.div_one]
  rw [enc_congr e1, e2, enc_dg j (t / n), Nat.pow_succ, Nat.mul_comm (n ^ j) n, Nat.mod_mul, Nat.mul_comm]
  omega
theorem Dg_inj {n a b : Nat} (ha : a < n ^ n) (hb : b < n ^ n) (h : ∀ i, i < n → Dg n a i = Dg n b i) : a = b := by
 have h1 := enc_dg (n := n) n a
 have h2 := enc_dg (n := n) n b
 rw [Nat.mod_eq_of_lt ha] at h1
 rw [Nat.mod_eq_of_lt hb] at h2
 rw [← h1, ← h2]
 refine enc_congr fun i hi => ?_
 have := h i hi
 unfold Dg at this
 rw [if_pos hi, if_pos hi] at this
 omega
open Classical in
theorem agrs_le {w w' : Nat → Wd} {m m' n : Nat} (hw : Fit w' m' n) (F : (Nat → Int) → Nat → Int) (h1 : ∀ f, Fin f n → agr w m f → Fin (F f) n ∧ agr w' m' (F f)) (h2 : ∀ f g, Fin f n → Fin g n → (∀ i, i < n → F f i = F g i) → ∀ i, i < n → f i = g i) : (agrs w m n).length ≤ (agrs w' m' n).length := by
 let φ : Nat → Nat := fun t => if h : ∃ s, s < n ^ n ∧ Fin (Dg n s) n ∧ agr w' m' (Dg n s) ∧ ∀ i, i < n → Dg n s i = F (Dg n t) i then Classical.choose h else 0
 have hφ : ∀ t, okA w m n t = true → φ t < n ^ n ∧ Fin (Dg n (φ t)) n ∧ agr w' m' (Dg n (φ t)) ∧ ∀ i, i < n → Dg n (φ t) i = F (Dg n t) i := by
  intro t ht
  obtain ⟨a, b⟩ := okA_iff.1 ht
  obtain ⟨c, d⟩ := h1 _ a b
  have h := fin_num hw c d
  have e : φ t = Classical.choose h := dif_pos h
  rw [e]
  exact Classical.choose_spec h
 refine lst_le (φ := φ) (fun t ht hp => ⟨(hφ t hp).1, okA_iff.2 ⟨(hφ t hp).2.1, (hφ t hp).2.2.1⟩⟩) fun a b ha hb hpa hpb e => ?_
 obtain ⟨fa, _⟩ := okA_iff.1 hpa
 obtain ⟨fb, _⟩ := okA_iff.1 hpb
 refine Dg_inj ha hb (h2 _ _ fa fb fun i hi => ?_)
 rw [← (hφ a hpa).2.2.2 i hi, ← (hφ b hpb).2.2.2 i hi, e]
structure Nam (nm : Nat → Nat) (n : Nat) : Prop where
 lt : ∀ i, i < n → nm i < n
 inj : ∀ i j, i < n → j < n → nm i = nm j → i = j
theorem Nam.surj {nm : Nat → Nat} {n : Nat} (h : Nam nm n) (j : Nat) (hj : j < n) : ∃ i, i < n ∧ nm i = j := by
 refine Classical.byContradiction fun hno => ?_
 have := inj_len (φ := nm) (l := List.range n) (m := (List.range n).erase j) List.nodup_range (fun a ha => by
  have ha := List.mem_range.1 ha
  exact (List.mem_erase_of_ne fun e => hno ⟨a, ha, e⟩).2 (List.mem_range.2 (h.lt a ha))) fun a b ha hb => h.inj a b (List.mem_range.1 ha) (List.mem_range.1 hb)
 rw [List.length_erase_of_mem (List.mem_range.2 hj), List.length_range] at this
 omega
open Classical in
noncomputable def invN (nm : Nat → Nat) (n j : Nat) : Nat := if h : ∃ i, i < n ∧ nm i = j then Classical.choose h else 0
theorem inv_spec {nm : Nat → Nat} {n : Nat} (h : Nam nm n) {j : Nat} (hj : j < n) : invN nm n j < n ∧ nm (invN nm n j) = j := by
 have hx := h.surj j hj
 unfold invN
 rw [dif_pos hx]
 exact Classical.choose_spec hx
theorem inv_nm {nm : Nat → Nat} {n : Nat} (h : Nam nm n) {i : Nat} (hi : i < n) : invN nm n (nm i) = i := by
 have ⟨a, b⟩ := inv_spec h (h.lt i hi)
 exact h.inj _ _ a hi b
theorem Nam.inv {nm : Nat → Nat} {n : Nat} (h : Nam nm n) : Nam (invN nm n) n :=
 ⟨fun i hi => (inv_spec h hi).1, fun i j hi hj e => by rw [← (inv_spec h hi).2, ← (inv_spec h hj).2, e]⟩
theorem rkN_lst (g : Nat → Int) (i : Nat) : ∀ k : Nat, rkN g i k = 1 + ((lst (fun j => decide (g j < g i)) k).length : Nat)
 | 0 => rfl
 | k + 1 => by
  simp only [rkN, lst, decide_eq_true_eq]
  rw [rkN_lst g i k]
  split
  ·rw [List.length_append]; simp; omega
  ·rfl
theorem lst_perm {nm : Nat → Nat} {n : Nat} (h : Nam nm n) (p : Nat → Bool) : (lst (fun k => p (nm k)) n).length = (lst p n).length := by
 have a := lst_le (p := fun k => p (nm k)) (q := p) (T := n) (U := n) (φ := nm) (fun t ht hp => ⟨h.lt t ht, hp⟩) fun a b ha hb _ _ e => h.inj a b ha hb e
 have b := lst_le (p := p) (q := fun k => p (nm k)) (T := n) (U := n) (φ := invN nm n) (fun t ht hp => ⟨(inv_spec h ht).1, by show p (nm (invN nm n t)) = true; rw [(inv_spec h ht).2]; exact hp⟩) fun a b ha hb _ _ e => h.inv.inj a b ha hb e
 omega
noncomputable def renF (nm : Nat → Nat) (n : Nat) (f : Nat → Int) : Nat → Int := fun j => f (invN nm n j)
theorem ren_fin {nm : Nat → Nat} {n : Nat} (h : Nam nm n) {f : Nat → Int} (hf : Fin f n) : Fin (renF nm n f) n := by
 intro j hj
 obtain ⟨i, hi, rfl⟩ := h.surj j hj
 have e : ∀ k, k < n → renF nm n f (nm k) = f k := fun k hk => by unfold renF; rw [inv_nm h hk]
 rw [e i hi, hf i hi]
 unfold rk
 rw [rkN_lst, rkN_lst, ← lst_perm h (fun j => decide (renF nm n f j < renF nm n f (nm i)))]
 congr 2
 refine congrArg List.length (lst_congr fun k hk => ?_)
 rw [e k hk, e i hi]
def renW (nm : Nat → Nat) (w : Nat → Wd) (i : Nat) : Wd := ⟨(nm (w i).a.toNat : Nat), (nm (w i).b.toNat : Nat), (w i).k⟩
theorem Fit.ren {w : Nat → Wd} {m n : Nat} {nm : Nat → Nat} (h : Nam nm n) (hf : Fit w m n) : Fit (renW nm w) m n := by
 refine ⟨fun i hi => ?_, fun i hi => ?_, fun i hi => ?_, hf.k⟩
 ·have a := hf.a i hi
  have := h.lt (w i).a.toNat (by omega)
  show 0 ≤ ((nm (w i).a.toNat : Nat) : Int) ∧ _
  constructor
  ·omega
  ·show ((nm (w i).a.toNat : Nat) : Int) < n; omega
 ·have a := hf.b i hi
  have := h.lt (w i).b.toNat (by omega)
  constructor
  ·show 0 ≤ ((nm (w i).b.toNat : Nat) : Int); omega
  ·show ((nm (w i).b.toNat : Nat) : Int) < n; omega
 ·have a := hf.a i hi
  have b := hf.b i hi
  intro e
  have e : ((nm (w i).a.toNat : Nat) : Int) = ((nm (w i).b.toNat : Nat) : Int) := e
  have := h.inj (w i).a.toNat (w i).b.toNat (by omega) (by omega) (by omega)
  exact hf.ne i hi (by omega)
theorem ren_agr {w : Nat → Wd} {m n : Nat} {nm : Nat → Nat} (h : Nam nm n) (hf : Fit w m n) {f : Nat → Int} : agr (renW nm w) m (renF nm n f) ↔ agr w m f := by
 have key : ∀ i, i < m → (says (renW nm w i) (fun x => renF nm n f x.toNat) ↔ says (w i) (fun x => f x.toNat)) := by
  intro i hi
  have a := hf.a i hi
  have b := hf.b i hi
  have e1 : renF nm n f ((renW nm w i).a).toNat = f (w i).a.toNat := by
   show f (invN nm n ((nm (w i).a.toNat : Nat) : Int).toNat) = _
   rw [Int.toNat_natCast, inv_nm h (by omega)]
  have e2 : renF nm n f ((renW nm w i).b).toNat = f (w i).b.toNat := by
   show f (invN nm n ((nm (w i).b.toNat : Nat) : Int).toNat) = _
   rw [Int.toNat_natCast, inv_nm h (by omega)]
  unfold says
  simp only [e1, e2]
  exact Iff.rfl
 exact ⟨fun g i hi => (key i hi).1 (g i hi), fun g i hi => (key i hi).2 (g i hi)⟩
theorem ren_back {nm : Nat → Nat} {n : Nat} (h : Nam nm n) {w : Nat → Wd} {m : Nat} (hf : Fit w m n) : ∀ i, i < m → renW (invN nm n) (renW nm w) i = w i := by
 intro i hi
 have a := hf.a i hi
 have b := hf.b i hi
 unfold renW
 simp only [Int.toNat_natCast]
 rw [inv_nm h (by omega), inv_nm h (by omega), Int.toNat_of_nonneg a.1, Int.toNat_of_nonneg b.1]
theorem agr_congr {w v : Nat → Wd} {m : Nat} {f : Nat → Int} (e : ∀ i, i < m → w i = v i) : agr w m f ↔ agr v m f :=
 ⟨fun h i hi => by rw [← e i hi]; exact h i hi, fun h i hi => by rw [e i hi]; exact h i hi⟩
theorem agrs_congr {w v : Nat → Wd} {m n : Nat} (e : ∀ i, i < m → w i = v i) : agrs w m n = agrs v m n := by
 unfold agrs
 refine lst_congr fun t _ => ?_
 rw [Bool.eq_iff_iff, okA_iff, okA_iff, agr_congr e]
theorem agrs_ren {w : Nat → Wd} {m n : Nat} {nm : Nat → Nat} (h : Nam nm n) (hf : Fit w m n) : (agrs (renW nm w) m n).length = (agrs w m n).length := by
 have one : ∀ {nm : Nat → Nat} {w : Nat → Wd}, Nam nm n → Fit w m n → (agrs w m n).length ≤ (agrs (renW nm w) m n).length := fun {nm w} h hf =>
  agrs_le (hf.ren h) (renF nm n) (fun f g1 g2 => ⟨ren_fin h g1, (ren_agr h hf).2 g2⟩) fun f g _ _ e i hi => by
   have := e (nm i) (h.lt i hi)
   unfold renF at this
   rwa [inv_nm h hi] at this
 have a := one h hf
 have b := one h.inv (hf.ren h)
 rw [agrs_congr (ren_back h hf)] at b
 omega
theorem go_ren {w : Nat → Wd} {m n : Nat} {nm : Nat → Nat} {x y : Int} {d : Nat} (hf : Fit w m n) (g : Go w m x d y) : Go (renW nm w) m (nm x.toNat : Nat) d (nm y.toNat : Nat) := by
 induction g with
 | nil => exact .nil
 | snoc i _ hi hl ih =>
  refine .snoc i ih hi ?_
  rcases hl with ⟨rfl, rfl⟩ | ⟨h1, rfl, rfl⟩
  ·exact .inl ⟨rfl, rfl⟩
  ·exact .inr ⟨h1, rfl, rfl⟩
theorem cz_ren {w : Nat → Wd} {m n : Nat} {nm : Nat → Nat} {L : Nat} (hf : Fit w m n) (h : Cz w m L) : Cz (renW nm w) m L := by
 obtain ⟨i, d, h1, h2, h3, h4⟩ := h
 exact ⟨i, d, h1, h2, go_ren hf h3, h4⟩
theorem go_congr {w v : Nat → Wd} {m : Nat} {x y : Int} {d : Nat} (e : ∀ i, i < m → w i = v i) (h : Go w m x d y) : Go v m x d y := by
 induction h with
 | nil => exact .nil
 | snoc i _ hi hl ih => exact .snoc i ih hi (e i hi ▸ hl)
theorem cz_congr {w v : Nat → Wd} {m L : Nat} (e : ∀ i, i < m → w i = v i) (h : Cz w m L) : Cz v m L := by
 obtain ⟨i, d, h1, h2, h3, h4⟩ := h
 exact ⟨i, d, h1, e i h1 ▸ h2, go_congr e (e i h1 ▸ h3), h4⟩
theorem short_ren {w : Nat → Wd} {m n : Nat} {nm : Nat → Nat} (h : Nam nm n) (hf : Fit w m n) : shN (renW nm w) m n m = shN w m n m :=
 ((short_mi (hf.ren h)).congr fun L => ⟨fun g => cz_congr (ren_back h hf) (cz_ren (nm := invN nm n) (hf.ren h) g), cz_ren hf⟩).uniq (short_mi hf)
theorem agr_rot {w : Nat → Wd} {m k : Nat} {f : Nat → Int} (hm : 0 < m) : agr (fun i => w ((i + k) % m)) m f ↔ agr w m f := by
 constructor
 ·intro h i hi
  have hk := Nat.mod_lt k hm
  have := h ((i + (m - k % m)) % m) (Nat.mod_lt _ hm)
  have e : ((i + (m - k % m)) % m + k) % m = i := by
   rw [Nat.mod_add_mod, Nat.add_assoc, show m - k % m + k = m * (k / m) + m by have := Nat.div_add_mod k m; omega, ← Nat.mul_succ, Nat.add_mul_mod_self_left, Nat.mod_eq_of_lt hi]
  simp only [e] at this
  exact this
 ·intro h i hi
  exact h _ (Nat.mod_lt _ hm)
theorem agrs_rot {w : Nat → Wd} {m k n : Nat} (hm : 0 < m) : agrs (fun i => w ((i + k) % m)) m n = agrs w m n := by
 unfold agrs
 refine lst_congr fun t _ => ?_
 rw [Bool.eq_iff_iff, okA_iff, okA_iff, agr_rot hm]
end Go.He
end
section
set_option linter.unusedSimpArgs false
set_option linter.unusedVariables false
set_option linter.defProp false
set_option maxRecDepth 100000
namespace Go.He
theorem filter_lst (q p : Nat → Bool) : ∀ T : Nat, (lst q T).filter p = lst (fun t => q t && p t) T
 | 0 => rfl
 | T + 1 => by
  simp only [lst]
  have ih := filter_lst q p T
  by_cases hq : q T = true
  ·rw [if_pos hq, List.filter_append, ih]
   by_cases hp : p T = true
   ·rw [if_pos (by rw [hq, hp]; rfl)]; simp [hp]
   ·rw [if_neg (by rw [hq]; simpa using hp)]; simp [hp]
  ·rw [if_neg hq, if_neg (by simp [hq]), ih]
def kindV (some all : Nat) : Int := if some = 0 then 0 else if some = all then 2 else 1
def mnF (g : Nat → Int) (a : Int) : Nat → Int
 | 0 => a
 | k + 1 => min (mnF g a k) (g k)
def mxF (g : Nat → Int) (a : Int) : Nat → Int
 | 0 => a
 | k + 1 => max (mxF g a k) (g k)
theorem mnF_le (g : Nat → Int) (a : Int) : ∀ k : Nat, mnF g a k ≤ a ∧ ∀ j, j < k → mnF g a k ≤ g j
 | 0 => ⟨Int.le_refl _, fun j h => by omega⟩
 | k + 1 => by
  have ⟨h1, h2⟩ := mnF_le g a k
  simp only [mnF]
  refine ⟨by omega, fun j hj => ?_⟩
  by_cases e : j = k
  ·subst e; omega
  ·have := h2 j (by omega); omega
theorem mnF_at (g : Nat → Int) (a : Int) : ∀ k : Nat, mnF g a k = a ∨ ∃ j, j < k ∧ mnF g a k = g j
 | 0 => .inl rfl
 | k + 1 => by
  simp only [mnF]
  have : min (mnF g a k) (g k) = mnF g a k ∨ min (mnF g a k) (g k) = g k := by omega
  rcases this with e | e
  ·rcases mnF_at g a k with h | ⟨j, h1, h2⟩
   ·exact .inl (e.trans h)
   ·exact .inr ⟨j, by omega, e.trans h2⟩
  ·exact .inr ⟨k, by omega, e⟩
theorem mxF_le (g : Nat → Int) (a : Int) : ∀ k : Nat, a ≤ mxF g a k ∧ ∀ j, j < k → g j ≤ mxF g a k
 | 0 => ⟨Int.le_refl _, fun j h => by omega⟩
 | k + 1 => by
  have ⟨h1, h2⟩ := mxF_le g a k
  simp only [mxF]
  refine ⟨by omega, fun j hj => ?_⟩
  by_cases e : j = k
  ·subst e; omega
  ·have := h2 j (by omega); omega
theorem mxF_at (g : Nat → Int) (a : Int) : ∀ k : Nat, mxF g a k = a ∨ ∃ j, j < k ∧ mxF g a k = g j
 | 0 => .inl rfl
 | k + 1 => by
  simp only [mxF]
  have : max (mxF g a k) (g k) = mxF g a k ∨ max (mxF g a k) (g k) = g k := by omega
  rcases this with e | e
  ·rcases mxF_at g a k with h | ⟨j, h1, h2⟩
   ·exact .inl (e.trans h)
   ·exact .inr ⟨j, by omega, e.trans h2⟩
  ·exact .inr ⟨k, by omega, e⟩
def loP (n : Nat) (L : List Nat) (r : Nat) : Int := mnF (fun i => Dg n (L.getD i 0) r) n L.length
def hiP (n : Nat) (L : List Nat) (r : Nat) : Int := mxF (fun i => Dg n (L.getD i 0) r) 1 L.length
theorem getD_mem {L : List Nat} {i : Nat} (h : i < L.length) : L.getD i 0 ∈ L := by
 rw [List.getD_eq_getElem?_getD, List.getElem?_eq_getElem h]; exact List.getElem_mem _
theorem mem_getD {L : List Nat} {t : Nat} (h : t ∈ L) : ∃ i, i < L.length ∧ L.getD i 0 = t := by
 obtain ⟨i, hi, e⟩ := List.getElem_of_mem h
 exact ⟨i, hi, by rw [List.getD_eq_getElem?_getD, List.getElem?_eq_getElem hi]; exact e⟩
structure Plc (n : Nat) (L : List Nat) (r : Nat) (lo hi : Int) : Prop where
 le : ∀ t, t ∈ L → lo ≤ Dg n t r
 ge : ∀ t, t ∈ L → Dg n t r ≤ hi
 le' : ∃ t, t ∈ L ∧ Dg n t r = lo
 ge' : ∃ t, t ∈ L ∧ Dg n t r = hi
theorem plc {n : Nat} {L : List Nat} {r : Nat} (hr : r < n) (hL : L ≠ []) : Plc n L r (loP n L r) (hiP n L r) := by
 have h0 : 0 < L.length := List.length_pos_iff.2 hL
 have ⟨a1, a2⟩ := mnF_le (fun i => Dg n (L.getD i 0) r) n L.length
 have ⟨b1, b2⟩ := mxF_le (fun i => Dg n (L.getD i 0) r) 1 L.length
 refine ⟨fun t ht => ?_, fun t ht => ?_, ?_, ?_⟩
 ·obtain ⟨i, hi, rfl⟩ := mem_getD ht; exact a2 i hi
 ·obtain ⟨i, hi, rfl⟩ := mem_getD ht; exact b2 i hi
 ·rcases mnF_at (fun i => Dg n (L.getD i 0) r) n L.length with h | ⟨j, h1, h2⟩
  ·refine ⟨L.getD 0 0, getD_mem h0, ?_⟩
   have := a2 0 h0
   have := (Dg_bd (n := n) (t := L.getD 0 0) hr).2
   unfold loP
   omega
  ·exact ⟨L.getD j 0, getD_mem h1, h2.symm⟩
 ·rcases mxF_at (fun i => Dg n (L.getD i 0) r) 1 L.length with h | ⟨j, h1, h2⟩
  ·refine ⟨L.getD 0 0, getD_mem h0, ?_⟩
   have := b2 0 h0
   have := (Dg_bd (n := n) (t := L.getD 0 0) hr).1
   unfold hiP
   omega
  ·exact ⟨L.getD j 0, getD_mem h1, h2.symm⟩
theorem Plc.uniq {n : Nat} {L : List Nat} {r : Nat} {a b c d : Int} (h : Plc n L r a b) (g : Plc n L r c d) : a = c ∧ b = d := by
 obtain ⟨t1, m1, e1⟩ := h.le'
 obtain ⟨t2, m2, e2⟩ := g.le'
 obtain ⟨t3, m3, e3⟩ := h.ge'
 obtain ⟨t4, m4, e4⟩ := g.ge'
 have := h.le t2 m2; have := g.le t1 m1; have := h.ge t4 m4; have := g.ge t3 m3
 omega
end Go.He
end
section
set_option linter.unusedSimpArgs false
set_option linter.unusedVariables false
set_option linter.defProp false
set_option maxRecDepth 100000
namespace Go.He
def mk (w : Nat → Wd) (f : Nat → Int) : Nat → Nat
 | 0 => 0
 | i + 1 => if says (w i) (fun x => f x.toNat) then mk w f i else mk w f i + 2 ^ i
theorem mk_lt (w : Nat → Wd) (f : Nat → Int) : ∀ m : Nat, mk w f m < 2 ^ m
 | 0 => by simp [mk]
 | m + 1 => by
  have := mk_lt w f m
  have e : 2 ^ (m + 1) = 2 ^ m + 2 ^ m := by rw [Nat.pow_succ]; omega
  simp only [mk]
  split <;> omega
theorem or_add {x i : Nat} (h : x < 2 ^ i) : x ||| 2 ^ i = x + 2 ^ i := by
 have := Nat.two_pow_add_eq_or_of_lt h 1
 rw [Nat.mul_one, Nat.or_comm] at this
 omega
theorem mk_or (w : Nat → Wd) (f : Nat → Int) (i : Nat) : mk w f i ||| 2 ^ i = mk w f i + 2 ^ i := or_add (mk_lt w f i)
def Msk (w : Nat → Wd) (m n : Nat) (ms : List Nat) : Prop := ∀ x, x ∈ ms ↔ x ≠ 0 ∧ ∃ t, t ∈ fins n ∧ x = mk w (Dg n t) m
def onlyW (w : Nat → Wd) (b : List Nat) (i : Nat) : Wd := w (b.getD i 0)
theorem only_agr {w : Nat → Wd} {b : List Nat} {f : Nat → Int} : agr (onlyW w b) b.length f ↔ ∀ a, a ∈ b → says (w a) (fun x => f x.toNat) := by
 constructor
 ·intro h a ha
  obtain ⟨i, hi, rfl⟩ := mem_getD ha
  exact h i hi
 ·intro h i hi
  exact h _ (getD_mem hi)
theorem only_all {w : Nat → Wd} {m : Nat} {b : List Nat} {f : Nat → Int} (hb : ∀ a, a ∈ b → a < m) (h : agr w m f) : agr (onlyW w b) b.length f :=
 only_agr.2 fun a ha => h a (hb a ha)
theorem only_le {w : Nat → Wd} {m n : Nat} {b : List Nat} (hb : ∀ a, a ∈ b → a < m) : (agrs w m n).length ≤ (agrs (onlyW w b) b.length n).length :=
 lst_mono fun t _ h => okA_iff.2 ⟨(okA_iff.1 h).1, only_all hb (okA_iff.1 h).2⟩
theorem msk_bit {w : Nat → Wd} {m n : Nat} {ms : List Nat} (hm : Msk w m n ms) : ∀ x, x ∈ ms → ∃ i, i < m ∧ x.testBit i = true := by
 intro x hx
 obtain ⟨h0, t, _, rfl⟩ := (hm x).1 hx
 exact bit_some h0 (mk_lt _ _ _)
theorem base_bst {w : Nat → Wd} {m n : Nat} {ms : List Nat} (hm : Msk w m n ms) : Bst ms m (baseP ms m) := baseP_ok (msk_bit hm)
end Go.He
end
section
set_option linter.unusedSimpArgs false
set_option linter.unusedVariables false
set_option linter.defProp false
set_option maxRecDepth 100000
namespace Go.He
def one0 (i j : Nat) : Int := if j < i then 1 else 0
theorem one0_S (i : Nat) : upN (one0 i) i 1 = one0 (i + 1) := by
 funext j; simp only [upN, one0]
 by_cases e : j = i
 ·subst e; rw [if_pos rfl, if_pos (by omega)]
 ·rw [if_neg e]
  by_cases h : j < i
  ·rw [if_pos h, if_pos (by omega)]
  ·rw [if_neg h, if_neg (by omega)]
theorem one0_n (n : Nat) : one0 n = Dg n 0 := by
 funext j; unfold one0
 by_cases h : j < n
 ·rw [if_pos h, Dg_0 h]
 ·rw [if_neg h]; unfold Dg; rw [if_neg h]
def nxF (n t c j : Nat) : Int := if j < c then Dg n t j else if j < n then 1 else 0
theorem nxF_n (n t : Nat) : nxF n t n = Dg n t := by
 funext j; unfold nxF
 by_cases h : j < n
 ·rw [if_pos h]
 ·rw [if_neg h, if_neg h]; unfold Dg; rw [if_neg h]
theorem nxF_S {n t c : Nat} (hc : c < n) : upN (nxF n t (c + 1)) c 1 = nxF n t c := by
 funext j; simp only [upN, nxF]
 by_cases e : j = c
 ·subst e; rw [if_pos rfl, if_neg (by omega), if_pos hc]
 ·rw [if_neg e]
  by_cases h : j < c
  ·rw [if_pos h, if_pos (by omega)]
  ·rw [if_neg h, if_neg (by omega)]
theorem nxF_at (n t c : Nat) : nxF n t (c + 1) c = Dg n t c := by unfold nxF; rw [if_pos (by omega)]
theorem nxF_up {n t c : Nat} (hc : c < n) (h : ∀ j, c < j → j < n → Dg n t j = n) (h2 : Dg n t c ≠ n) : upN (nxF n t (c + 1)) c (Dg n t c + 1) = Dg n (t + 1) := by
 funext j
 by_cases hj : j < n
 ·rw [Dg_next hc h h2 j hj]
  simp only [upN, nxF]
  by_cases e : j = c
  ·subst e; rw [if_pos rfl, if_neg (by omega), if_pos rfl]
  ·rw [if_neg e, if_neg e]
   by_cases h3 : j < c
   ·rw [if_pos h3, if_pos (by omega)]
   ·rw [if_neg h3, if_neg (by omega), if_pos hj]
 ·simp only [upN, nxF]
  unfold Dg
  rw [if_neg (by omega), if_neg (by omega), if_neg hj, if_neg hj]
theorem pow5 {n : Nat} (h : n ≤ 5) : n ^ n ≤ 3125 := by
 have : n = 0 ∨ n = 1 ∨ n = 2 ∨ n = 3 ∨ n = 4 ∨ n = 5 := by omega
 rcases this with rfl | rfl | rfl | rfl | rfl | rfl <;> decide
theorem pow_pos' {n : Nat} (h : 1 ≤ n) : 0 < n ^ n := Nat.pow_pos h
theorem all_last {n t : Nat} (hn : 1 ≤ n) (ht : t < n ^ n) (h : ∀ j, 0 ≤ j → j < n → Dg n t j = n) : t + 1 = n ^ n := Dg_last hn ht fun j hj => h j (Nat.zero_le _) hj
end Go.He
end
