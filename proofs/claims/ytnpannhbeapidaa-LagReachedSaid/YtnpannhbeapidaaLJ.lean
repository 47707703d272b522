/- A part of the proof. -/
import Derived.Test.YtnpannhbeapidaaLA
import Derived.Test.YtnpannhbeapidaaLC
import Derived.Test.YtnpannhbeapidaaLB
import Derived.Test.YtnpannhbeapidaaLD
import Derived.Test.YtnpannhbeapidaaLE
section
set_option linter.unusedSimpArgs false
set_option linter.unusedVariables false
set_option maxRecDepth 100000
set_option maxHeartbeats 4000000
namespace Go.Lg
open Go.Sx
def conv (f g : Nat → Int) (k : Nat) : Int := foldMin (fun p => f (k - p) + g p) k
theorem conv_le (f g : Nat → Int) (p q : Nat) : conv f g (p + q) ≤ f p + g q := by
  have := foldMin_le (fun j => f (p + q - j) + g j) (p + q) q (by omega)
  have e : p + q - q = p := by omega
  simp only [e] at this
  exact this
theorem conv_le' (f g : Nat → Int) (k p q : Nat) (h : p + q = k) : conv f g k ≤ f p + g q := by subst h; exact conv_le f g p q
theorem conv_at (f g : Nat → Int) (k : Nat) : ∃ p q, p + q = k ∧ conv f g k = f p + g q := by
  obtain ⟨j, hj, e⟩ := foldMin_at (fun j => f (k - j) + g j) k
  exact ⟨k - j, j, by omega, e⟩
theorem le_conv (f g : Nat → Int) (k : Nat) (x : Int) (h : ∀ p q, p + q = k → x ≤ f p + g q) : x ≤ conv f g k := by
  obtain ⟨p, q, h1, h2⟩ := conv_at f g k
  rw [h2]; exact h p q h1
theorem conv_comm (f g : Nat → Int) (k : Nat) : conv f g k = conv g f k := by
  apply Int.le_antisymm
  · refine le_conv g f k _ fun p q h => ?_
    have := conv_le' f g k q p (by omega); omega
  · refine le_conv f g k _ fun p q h => ?_
    have := conv_le' g f k q p (by omega); omega
theorem conv_assoc (f g h : Nat → Int) (k : Nat) : conv (conv f g) h k = conv f (conv g h) k := by
  apply Int.le_antisymm
  · refine le_conv _ _ k _ fun p q e => ?_
    obtain ⟨a, b, e1, e2⟩ := conv_at g h q
    rw [e2]
    have h1 := conv_le' (conv f g) h k (p + a) b (by omega)
    have h2 := conv_le f g p a
    omega
  · refine le_conv _ _ k _ fun p q e => ?_
    obtain ⟨a, b, e1, e2⟩ := conv_at f g p
    rw [e2]
    have h1 := conv_le' f (conv g h) k a (b + q) (by omega)
    have h2 := conv_le g h b q
    omega
theorem conv_mono (f g f' g' : Nat → Int) (k : Nat) (h1 : ∀ j, j ≤ k → f j ≤ f' j) (h2 : ∀ j, j ≤ k → g j ≤ g' j) : conv f g k ≤ conv f' g' k := by
  refine le_conv _ _ k _ fun p q e => ?_
  have h3 := conv_le' f g k p q e
  have h4 := h1 p (by omega)
  have h5 := h2 q (by omega)
  omega
theorem conv_congr (f g f' g' : Nat → Int) (k : Nat) (h1 : ∀ j, j ≤ k → f j = f' j) (h2 : ∀ j, j ≤ k → g j = g' j) : conv f g k = conv f' g' k :=
  Int.le_antisymm (conv_mono _ _ _ _ k (fun j hj => by rw [h1 j hj]; exact Int.le_refl _) (fun j hj => by rw [h2 j hj]; exact Int.le_refl _)) (conv_mono _ _ _ _ k (fun j hj => by rw [h1 j hj]; exact Int.le_refl _) (fun j hj => by rw [h2 j hj]; exact Int.le_refl _))
theorem conv_mono1 (f g : Nat → Int) (k : Nat) (h1 : ∀ j, j ≤ k → f j ≤ f (j + 1)) (h2 : ∀ j, j ≤ k → g j ≤ g (j + 1)) : conv f g k ≤ conv f g (k + 1) := by
  refine le_conv _ _ (k + 1) _ fun p q e => ?_
  cases q with
  | zero =>
    have h3 := conv_le' f g k k 0 (by omega)
    have h4 := h1 k (Nat.le_refl _)
    have : p = k + 1 := by omega
    subst this
    omega
  | succ q =>
    have h3 := conv_le' f g k p q (by omega)
    have h4 := h2 q (by omega)
    omega
theorem Ls_conv (C : Nat → Curve) (i : Nat) : Ls C (i + 1) = conv (Ls C i) (C (i + 1)).L1 := rfl
theorem lzTo_le (A L : Nat → Int) (t : Nat) : ∀ U u, u < U → lzTo A L t U ≤ A u + L (t - u)
  | 0, u, h => by omega
  | U + 1, u, h => by
    simp only [lzTo]
    by_cases e : u = U
    · subst e; omega
    · have := lzTo_le A L t U u (by omega); omega
theorem lzTo_le0 (A L : Nat → Int) (t : Nat) : ∀ U, lzTo A L t U ≤ A t
  | 0 => Int.le_refl _
  | U + 1 => by have := lzTo_le0 A L t U; simp only [lzTo]; omega
theorem lzTo_at (A L : Nat → Int) (t : Nat) : ∀ U, lzTo A L t U = A t ∨ ∃ u, u < U ∧ lzTo A L t U = A u + L (t - u)
  | 0 => .inl rfl
  | U + 1 => by
    simp only [lzTo]
    by_cases h : A U + L (t - U) ≤ lzTo A L t U
    · exact .inr ⟨U, by omega, by omega⟩
    · rw [Int.min_eq_left (by omega)]
      rcases lzTo_at A L t U with e | ⟨u, h1, h2⟩
      · exact .inl e
      · exact .inr ⟨u, by omega, h2⟩
theorem lz_conv (A L : Nat → Int) (h0 : L 0 = 0) (t : Nat) : lz A L t = conv A L t := by
  unfold lz
  apply Int.le_antisymm
  · refine le_conv _ _ t _ fun p q e => ?_
    by_cases hp : p < t
    · have := lzTo_le A L t t p hp
      rw [show t - p = q by omega] at this; exact this
    · have h1 : p = t := by omega
      have h2 : q = 0 := by omega
      subst h1 h2
      have := lzTo_le0 A L p p
      omega
  · rcases lzTo_at A L t t with e | ⟨u, h1, h2⟩
    · rw [e]
      have := conv_le' A L t t 0 (by omega)
      omega
    · rw [h2]
      exact conv_le' A L t u (t - u) (by omega)
def thr (A : Nat → Int) (C : Nat → Curve) : Nat → Nat → Int
  | 0 => A
  | i + 1 => conv (thr A C i) (C i).L1
theorem thr_conv (A : Nat → Int) (C : Nat → Curve) : ∀ i k, thr A C (i + 1) k = conv A (Ls C i) k
  | 0, k => rfl
  | i + 1, k => by
    show conv (thr A C (i + 1)) (C (i + 1)).L1 k = conv A (conv (Ls C i) (C (i + 1)).L1) k
    rw [← conv_assoc]
    exact conv_congr _ _ _ _ k (fun j _ => thr_conv A C i j) (fun _ _ => rfl)
theorem rt_eq (c : Curve) (h : c.Fine) (i : Nat) (hi : i < c.m) : ((c.rt i).1 : Int) * (i + 1 : Nat) = c.u i * (c.rt i).2 ∧ 0 < (c.rt i).2 := by
  have h1 := h.rg i hi
  unfold Curve.rt
  obtain ⟨a, ha⟩ : ∃ a : Nat, c.u i = a := ⟨(c.u i).toNat, by omega⟩
  rw [ha]
  simp only [Int.toNat_natCast]
  have hg : 0 < Nat.gcd a (i + 1) := Nat.gcd_pos_of_pos_right _ (by omega)
  obtain ⟨x, hx⟩ := Nat.gcd_dvd_left a (i + 1)
  obtain ⟨y, hy⟩ := Nat.gcd_dvd_right a (i + 1)
  generalize Nat.gcd a (i + 1) = g at *
  have e1 : a / g = x := by rw [hx]; exact Nat.mul_div_cancel_left x hg
  have e2 : (i + 1) / g = y := by rw [hy]; exact Nat.mul_div_cancel_left y hg
  rw [e1, e2]
  refine ⟨?_, ?_⟩
  · rw [hx, hy]
    push_cast
    rw [Int.mul_comm (g : Int) x, Int.mul_assoc]
  · rcases Nat.eq_zero_or_pos y with e | e
    · subst e; omega
    · exact e
end Go.Lg
end
section
set_option linter.unusedSimpArgs false
set_option linter.unusedVariables false
set_option maxRecDepth 100000
set_option maxHeartbeats 4000000
namespace Go.Lg
open Go.Sx
theorem sum_tel (f : Nat → Int) (t : Nat) : sumTo (fun j => f (j + 1) - f j) t = f t - f 0 := by
  induction t with
  | zero => simp [sumTo]
  | succ t ih => simp only [sumTo, ih]; omega
theorem sum_congr (u v : Nat → Int) : ∀ t, (∀ j, j < t → u j = v j) → sumTo u t = sumTo v t
  | 0, _ => rfl
  | t + 1, h => by simp only [sumTo]; rw [sum_congr u v t (fun j hj => h j (by omega)), h t (by omega)]
theorem sum_add (u : Nat → Int) (s : Nat) : ∀ k, sumTo u (s + k) - sumTo u s = sumTo (fun j => u (s + j)) k
  | 0 => by simp [sumTo]
  | k + 1 => by
    have := sum_add u s k
    show sumTo u (s + k) + u (s + k) - sumTo u s = sumTo (fun j => u (s + j)) k + u (s + k)
    omega
theorem sum_le (u v : Nat → Int) : ∀ t, (∀ j, j < t → u j ≤ v j) → sumTo u t ≤ sumTo v t
  | 0, _ => Int.le_refl _
  | t + 1, h => by
    have h1 := sum_le u v t (fun j hj => h j (by omega))
    have h2 := h t (by omega)
    simp only [sumTo]; omega
def kTo (M b A : Nat → Int) (t : Nat) : Nat → Int
  | 0 => b t
  | U + 1 => min (kTo M b A t U) (M (t + 1 - U) - (A t - A U))
def kTab (M b : Nat → Int) : Nat → Nat → Int
  | 0 => fun _ => 0
  | t + 1 => fun j => if j = t + 1 then kTab M b t t + kTo M b (kTab M b t) t (t + 1) else kTab M b t j
def KS (M b : Nat → Int) (t : Nat) : Int := kTab M b t t
def K (M b : Nat → Int) (t : Nat) : Int := kTo M b (KS M b) t (t + 1)
theorem kTo_congr (M b A A' : Nat → Int) (t : Nat) (h : ∀ j, j ≤ t → A j = A' j) : ∀ U, U ≤ t + 1 → kTo M b A t U = kTo M b A' t U
  | 0, _ => rfl
  | U + 1, hU => by simp only [kTo]; rw [kTo_congr M b A A' t h U (by omega), h t (by omega), h U (by omega)]
theorem kTab_lo (M b : Nat → Int) : ∀ t j, j ≤ t → kTab M b t j = KS M b j
  | 0, j, h => by have : j = 0 := by omega
                  subst this; rfl
  | t + 1, j, h => by
    by_cases e : j = t + 1
    · subst e; rfl
    · have := kTab_lo M b t j (by omega)
      rw [← this]
      show (if j = t + 1 then _ else kTab M b t j) = _
      rw [if_neg e]
theorem KS_zero (M b : Nat → Int) : KS M b 0 = 0 := rfl
theorem KS_succ (M b : Nat → Int) (t : Nat) : KS M b (t + 1) = KS M b t + K M b t := by
  show (if t + 1 = t + 1 then kTab M b t t + kTo M b (kTab M b t) t (t + 1) else _) = _
  rw [if_pos rfl]
  show KS M b t + _ = KS M b t + kTo M b (KS M b) t (t + 1)
  rw [kTo_congr M b (kTab M b t) (KS M b) t (fun j hj => kTab_lo M b t j hj) (t + 1) (Nat.le_refl _)]
theorem KS_sum (M b : Nat → Int) : ∀ t, sumTo (K M b) t = KS M b t
  | 0 => rfl
  | t + 1 => by rw [KS_succ, ← KS_sum M b t]; rfl
theorem kTo_le (M b A : Nat → Int) (t : Nat) : ∀ U u, u < U → kTo M b A t U ≤ M (t + 1 - u) - (A t - A u)
  | 0, u, h => by omega
  | U + 1, u, h => by
    simp only [kTo]
    by_cases e : u = U
    · subst e; omega
    · have := kTo_le M b A t U u (by omega); omega
theorem kTo_le0 (M b A : Nat → Int) (t : Nat) : ∀ U, kTo M b A t U ≤ b t
  | 0 => Int.le_refl _
  | U + 1 => by have := kTo_le0 M b A t U; simp only [kTo]; omega
theorem KS_keeps (M b : Nat → Int) (h0 : 0 ≤ M 0) (t : Nat) : ∀ u, u ≤ t → KS M b t - KS M b u ≤ M (t - u) := by
  intro u hu
  cases t with
  | zero => have : u = 0 := by omega
            subst this; simpa using h0
  | succ t =>
    by_cases e : u = t + 1
    · subst e; simpa using h0
    · have := kTo_le M b (KS M b) t (t + 1) u (by omega)
      rw [KS_succ]
      unfold K
      omega
theorem kTo_nonneg {c : Curve} (hc : c.Fine) (b : Nat → Int) (t : Nat) (hb : 0 ≤ b t) : ∀ U, U ≤ t + 1 → 0 ≤ kTo c.M b (KS c.M b) t U
  | 0, _ => hb
  | U + 1, h => by
    have h1 := kTo_nonneg hc b t hb U (by omega)
    have h2 := KS_keeps c.M b (M_bound hc 0).1 t U (by omega)
    have h3 := M_mono hc (t + 1 - U) (t - U) (by omega)
    simp only [kTo]; omega
theorem K_rg {c : Curve} (hc : c.Fine) (b : Nat → Int) (t : Nat) (hb : 0 ≤ b t ∧ b t ≤ 255) : 0 ≤ K c.M b t ∧ K c.M b t ≤ 255 :=
  ⟨kTo_nonneg hc b t hb.1 (t + 1) (Nat.le_refl _), Int.le_trans (kTo_le0 _ _ _ t (t + 1)) hb.2⟩
def NA (a d : Nat → Int) (m : Nat) (b : Nat → Int) : Nat → Int
  | 0 => 0
  | t + 1 => max (NA a d m b t) (d (t + 1)) + (if 0 < m then (b ((t + 1) % m)).tmod (a (t + 1) - max (NA a d m b t) (d (t + 1)) + 1) else 0)
theorem NA_step (a d : Nat → Int) (m : Nat) (b : Nat → Int) (t : Nat) (hb : ∀ j, j < m → 0 ≤ b j) (ha : a t ≤ a (t + 1)) (hd : d (t + 1) ≤ a (t + 1)) (h : NA a d m b t ≤ a t) :
    NA a d m b t ≤ NA a d m b (t + 1) ∧ d (t + 1) ≤ NA a d m b (t + 1) ∧ NA a d m b (t + 1) ≤ a (t + 1) := by
  simp only [NA]
  generalize NA a d m b t = x at *
  by_cases hm : 0 < m
  · rw [if_pos hm]
    have h1 := hb _ (Nat.mod_lt (t + 1) hm)
    have h2 := Int.tmod_nonneg (a (t + 1) - max x (d (t + 1)) + 1) h1
    have h3 := Int.tmod_lt_of_pos (b ((t + 1) % m)) (show 0 < a (t + 1) - max x (d (t + 1)) + 1 by omega)
    generalize (b ((t + 1) % m)).tmod (a (t + 1) - max x (d (t + 1)) + 1) = y at *
    omega
  · rw [if_neg hm]; omega
theorem NA_all (a d : Nat → Int) (m : Nat) (b : Nat → Int) (T : Nat) (hb : ∀ j, j < m → 0 ≤ b j) (a0 : a 0 = 0) (ha : ∀ t, t < T → a t ≤ a (t + 1)) (hd : ∀ t, t ≤ T → d t ≤ a t) : ∀ t, t ≤ T → NA a d m b t ≤ a t ∧ d t ≤ NA a d m b t
  | 0, _ => by have := hd 0 (by omega); simp only [NA]; omega
  | t + 1, h => by
    have h1 := NA_all a d m b T hb a0 ha hd t (by omega)
    have h2 := NA_step a d m b t hb (ha t (by omega)) (hd (t + 1) h) h1.1
    omega
theorem NA_mono (a d : Nat → Int) (m : Nat) (b : Nat → Int) (T : Nat) (hb : ∀ j, j < m → 0 ≤ b j) (a0 : a 0 = 0) (ha : ∀ t, t < T → a t ≤ a (t + 1)) (hd : ∀ t, t ≤ T → d t ≤ a t) (t : Nat) (h : t < T) : NA a d m b t ≤ NA a d m b (t + 1) :=
  (NA_step a d m b t hb (ha t h) (hd (t + 1) (by omega)) (NA_all a d m b T hb a0 ha hd t (by omega)).1).1
def qz (u : Nat → Int) (m j : Nat) : Int := if j < m then u j else 0
theorem sum_qz (u : Nat → Int) (m : Nat) : ∀ t, sumTo (qz u m) t = sumTo u (min t m)
  | 0 => by simp [sumTo]
  | t + 1 => by
    simp only [sumTo]
    rw [sum_qz u m t]
    unfold qz
    by_cases h : t < m
    · rw [if_pos h, show min t m = t by omega, show min (t + 1) m = t + 1 by omega]; rfl
    · rw [if_neg h, show min t m = m by omega, show min (t + 1) m = m by omega]; omega
end Go.Lg
end
section
set_option linter.unusedSimpArgs false
set_option linter.unusedVariables false
set_option maxRecDepth 100000
set_option maxHeartbeats 4000000
namespace Go.Lg
open Go.Sx
theorem fk1_spec (P : Nat → Bool) : ∀ n i, 1 ≤ i → (fk1 P i n = 0 ∧ ∀ j, i ≤ j → j < i + n → P j = false) ∨ (i ≤ fk1 P i n ∧ fk1 P i n < i + n ∧ P (fk1 P i n) = true ∧ ∀ j, i ≤ j → j < fk1 P i n → P j = false)
  | 0, i, _ => .inl ⟨rfl, fun j h1 h2 => by omega⟩
  | n + 1, i, hi => by
    by_cases h : P i = true
    · right
      rw [fk1_pos P n i hi h]
      exact ⟨Nat.le_refl _, by omega, h, fun j h1 h2 => by omega⟩
    · have h : P i = false := by simpa using h
      rw [fk1_step P n i h]
      rcases fk1_spec P n (i + 1) (by omega) with ⟨h1, h2⟩ | ⟨h1, h2, h3, h4⟩
      · refine .inl ⟨h1, fun j h3 h4 => ?_⟩
        by_cases e : j = i
        · subst e; exact h
        · exact h2 j (by omega) (by omega)
      · refine .inr ⟨by omega, by omega, h3, fun j h5 h6 => ?_⟩
        by_cases e : j = i
        · subst e; exact h
        · exact h4 j (by omega) h6
theorem brkF_spec (c a : Curve) : ∀ n t, t + n = a.m → (brkF c a t n = (0, 0) ∧ ∀ s, t ≤ s → ∀ k, 1 ≤ k → s + k ≤ a.m → brkP c a s k = false) ∨
    (t ≤ (brkF c a t n).1 ∧ 1 ≤ (brkF c a t n).2 ∧ (brkF c a t n).1 + (brkF c a t n).2 ≤ a.m ∧ brkP c a (brkF c a t n).1 (brkF c a t n).2 = true ∧ (∀ j, 1 ≤ j → j < (brkF c a t n).2 → brkP c a (brkF c a t n).1 j = false) ∧ ∀ s, t ≤ s → s < (brkF c a t n).1 → ∀ k, 1 ≤ k → s + k ≤ a.m → brkP c a s k = false)
  | 0, t, e => .inl ⟨rfl, fun s hs k hk h => by omega⟩
  | n + 1, t, e => by
    have hs := fk1_spec (brkP c a t) (a.m - t) 1 (Nat.le_refl _)
    by_cases h : brkT c a t = 0
    · rw [brkF_miss h]
      have h0 : ∀ k, 1 ≤ k → t + k ≤ a.m → brkP c a t k = false := fun k h1 h2 => by
        rcases hs with ⟨_, h3⟩ | ⟨h3, _⟩
        · exact h3 k h1 (by omega)
        · have : fk1 (brkP c a t) 1 (a.m - t) = 0 := h
          omega
      rcases brkF_spec c a n (t + 1) (by omega) with ⟨h1, h2⟩ | ⟨h1, h2, h3, h4, h5, h6⟩
      · refine .inl ⟨h1, fun s h3 k h4 h5 => ?_⟩
        by_cases e : s = t
        · subst e; exact h0 k h4 h5
        · exact h2 s (by omega) k h4 h5
      · refine .inr ⟨by omega, h2, h3, h4, h5, fun s h7 h8 k h9 h10 => ?_⟩
        by_cases e : s = t
        · subst e; exact h0 k h9 h10
        · exact h6 s (by omega) h8 k h9 h10
    · rw [brkF_hit h]
      right
      rcases hs with ⟨h1, _⟩ | ⟨h1, h2, h3, h4⟩
      · exact absurd h1 h
      · have e2 : brkT c a t = fk1 (brkP c a t) 1 (a.m - t) := rfl
        rw [← e2] at h1 h2 h3 h4
        exact ⟨Nat.le_refl _, h1, by show t + brkT c a t ≤ a.m; omega, h3, h4, fun s h5 h6 => by have : s < t := h6; omega⟩
theorem break_none {c a : Curve} (hc : c.Fine) (ha : Row a) (h : ∀ s k, 1 ≤ k → s + k ≤ a.m → a.S (s + k) - a.S s ≤ c.M k) : breakV c a = (0, 0, 5) := by
  unfold breakV
  rw [if_pos (Curve.err_fine hc), if_pos (row_rErr ha)]
  rcases brkF_spec c a a.m 0 (by omega) with ⟨h1, _⟩ | ⟨h1, h2, h3, h4, _⟩
  · rw [h1]; rfl
  · have h5 := of_decide_eq_true h4
    have := h (brkF c a 0 a.m).1 (brkF c a 0 a.m).2 h2 h3
    have h6 : a.S ((brkF c a 0 a.m).1 + (brkF c a 0 a.m).2) - a.S (brkF c a 0 a.m).1 = sumTo a.u ((brkF c a 0 a.m).1 + (brkF c a 0 a.m).2) - sumTo a.u (brkF c a 0 a.m).1 := rfl
    omega
end Go.Lg
end
section
set_option linter.unusedSimpArgs false
set_option linter.unusedVariables false
set_option linter.defProp false
set_option maxRecDepth 100000
set_option maxHeartbeats 16000000
namespace Go.Lg
open Go.Sx
theorem ty51 : tyOf Go.Proofs.Try.prog 51 = some ⟨false, 1, some [.slice none 0 0], .slice 5 1⟩ := by kernel_rfl
def u8s (n : Nat) (b : Nat → Int) : SV := .arr false false n 1 (fun i _ => .val (.int .u8 (b i)))
theorem u8s_old (n : Nat) (b : Nat → Int) : Old (u8s n b) := by simp [Old, u8s]
theorem KS_bound {c : Curve} (hc : c.Fine) (b : Nat → Int) (n : Nat) (hb : ∀ i, i < n → 0 ≤ b i ∧ b i ≤ 255) : ∀ t, t ≤ n → 0 ≤ KS c.M b t ∧ KS c.M b t ≤ 255 * t
  | 0, _ => by rw [KS_zero]; omega
  | t + 1, h => by
    have h1 := KS_bound hc b n hb t (by omega)
    have h2 := K_rg hc b t (hb t (by omega))
    rw [KS_succ]; omega
theorem c48 (c : Curve) (h : c.Fine) (n : Nat) (hn : n ≤ 300) (b : Nat → Int) (hb : ∀ i, i < n → 0 ≤ b i ∧ b i ≤ 255) : ContractN Go.Proofs.Try.prog 48 [c.sv, u8s n b] (.rows 2 1 n (fun j _ => I (K c.M b j))) (.vec 0 n 1) := by
  refine contractN_of Go.Proofs.Try.func48 rfl (by kernel_rfl) follows (by kernel_rfl) _ _ _ (by rw [Go.Proofs.Try.ntmps48]; simp) (by simp [OldL, c.old, u8s_old]) ?_
  unfold I
  have hM := M_bound h
  have hS := KS_bound h b n hb
  conv => arg 4; unfold Curve.sv ints u8s
  (repeat' (first | with_reducible refine splitVC_d (fun _ => ?_) (fun _ => ?_) | ((with_reducible refine And.intro ?_ ?_); focus (first | trivial | (simp only [InK]; omega) | omega | (simp only [InK, ne_eq, and_true, true_and]; omega))) | simp -dsimp only [↓RP, RQ0, RQ1, RQ2, RQ3, implies_true, forall_const, Nat.reduceMul, reduceIte, reduceCtorEq, Nat.reduceAdd, Nat.reduceEqDiff, Nat.reduceLT, Nat.reduceLeDiff, ty5, ty51, I, by2, TY, Int.toNat_natCast, Go.Proofs.Try.results48]))
  refine callN (c54 c h n (by omega)) (by (simp -dsimp only [↓RP, RQ0, RQ1, RQ2, RQ3, implies_true, forall_const, Nat.reduceMul, reduceIte, reduceCtorEq, Nat.reduceAdd, Nat.reduceEqDiff, Nat.reduceLT, Nat.reduceLeDiff, Curve.sv, ints, I, B]); all_goals simp) (by (simp -dsimp only [↓RP, RQ0, RQ1, RQ2, RQ3, implies_true, forall_const, Nat.reduceMul, reduceIte, reduceCtorEq, Nat.reduceAdd, Nat.reduceEqDiff, Nat.reduceLT, Nat.reduceLeDiff, I]); all_goals simp) (by (simp -dsimp only [↓RP, RQ0, RQ1, RQ2, RQ3, implies_true, forall_const, Nat.reduceMul, reduceIte, reduceCtorEq, Nat.reduceAdd, Nat.reduceEqDiff, Nat.reduceLT, Nat.reduceLeDiff, I]); all_goals simp) ?_
  (repeat' (first | with_reducible refine splitVC_d (fun _ => ?_) (fun _ => ?_) | ((with_reducible refine And.intro ?_ ?_); focus (first | trivial | (simp only [InK]; omega) | omega | (simp only [InK, ne_eq, and_true, true_and]; omega))) | simp -dsimp only [↓RP, RQ0, RQ1, RQ2, RQ3, implies_true, forall_const, Nat.reduceMul, reduceIte, reduceCtorEq, Nat.reduceAdd, Nat.reduceEqDiff, Nat.reduceLT, Nat.reduceLeDiff, ty5, ty51, I, by2, TY, Int.toNat_natCast, Go.Proofs.Try.results48]))
  refine loop_vc (fun (i : Nat) => i ≤ n) (fun i => ⟨[(1, .arr false false n 1 (fun i _ => .val (.int .u8 (b i)))), (5, .vec 60 (n + 1) 1), (6, .vec 61 (i + 1) 1), (7, .vec 62 i 1), (8, .val (.int .i64 i))], [(60, .rows 2 1 (n + 1) (fun j _ => .val (.int .i64 (c.M j)))), (61, .rows 2 1 (i + 1) (fun j _ => .val (.int .i64 (KS c.M b j)))), (62, .rows 2 1 i (fun j _ => .val (.int .i64 (K c.M b j))))], 63⟩) (fun i => n - i) 0 (Nat.zero_le _) (weak [(60, some 4), (61, some 6), (62, none)] [] ?_ ?_ ?_) fun i hi => ?_
  · (simp -dsimp only [↓RP, RQ0, RQ1, RQ2, RQ3, implies_true, forall_const, Nat.reduceMul, reduceIte, reduceCtorEq, Nat.reduceAdd, Nat.reduceEqDiff, Nat.reduceLT, Nat.reduceLeDiff]); all_goals simp
  · (simp -dsimp only [↓RP, RQ0, RQ1, RQ2, RQ3, implies_true, forall_const, Nat.reduceMul, reduceIte, reduceCtorEq, Nat.reduceAdd, Nat.reduceEqDiff, Nat.reduceLT, Nat.reduceLeDiff]); all_goals (try simp [KS_zero])
  · (simp -dsimp only [↓RP, RQ0, RQ1, RQ2, RQ3, implies_true, forall_const, Nat.reduceMul, reduceIte, reduceCtorEq, Nat.reduceAdd, Nat.reduceEqDiff, Nat.reduceLT, Nat.reduceLeDiff]); all_goals simp
  by_cases hlt : i < n
  · have b0 := hb i hlt
    (repeat' (first | with_reducible refine splitVC_d (fun _ => ?_) (fun _ => ?_) | ((with_reducible refine And.intro ?_ ?_); focus (first | trivial | (simp only [InK]; omega) | omega | (simp only [InK, ne_eq, and_true, true_and]; omega))) | simp -dsimp only [↓RP, RQ0, RQ1, RQ2, RQ3, implies_true, forall_const, Nat.reduceMul, reduceIte, reduceCtorEq, Nat.reduceAdd, Nat.reduceEqDiff, Nat.reduceLT, Nat.reduceLeDiff, ty5, ty51, I, by2, TY, Int.toNat_natCast, Go.Proofs.Try.results48]))
    all_goals first | (exfalso; omega) | skip
    refine loop_vc (fun (U : Nat) => U ≤ i + 1) (fun U => ⟨[(1, .arr false false n 1 (fun i _ => .val (.int .u8 (b i)))), (5, .vec 60 (n + 1) 1), (6, .vec 61 (i + 1) 1), (7, .vec 62 i 1), (8, .val (.int .i64 i)), (9, .val (.int .i64 (kTo c.M b (KS c.M b) i U))), (10, .val (.int .i64 U))], [(60, .rows 2 1 (n + 1) (fun j _ => .val (.int .i64 (c.M j)))), (61, .rows 2 1 (i + 1) (fun j _ => .val (.int .i64 (KS c.M b j)))), (62, .rows 2 1 i (fun j _ => .val (.int .i64 (K c.M b j))))], 90⟩) (fun U => i + 1 - U) 0 (Nat.zero_le _) (weak [] [] ?_ ?_ ?_) fun U hU => ?_
    · (simp -dsimp only [↓RP, RQ0, RQ1, RQ2, RQ3, implies_true, forall_const, Nat.reduceMul, reduceIte, reduceCtorEq, Nat.reduceAdd, Nat.reduceEqDiff, Nat.reduceLT, Nat.reduceLeDiff]); all_goals (try simp [kTo])
    · (simp -dsimp only [↓RP, RQ0, RQ1, RQ2, RQ3, implies_true, forall_const, Nat.reduceMul, reduceIte, reduceCtorEq, Nat.reduceAdd, Nat.reduceEqDiff, Nat.reduceLT, Nat.reduceLeDiff]); all_goals simp
    · (simp -dsimp only [↓RP, RQ0, RQ1, RQ2, RQ3, implies_true, forall_const, Nat.reduceMul, reduceIte, reduceCtorEq, Nat.reduceAdd, Nat.reduceEqDiff, Nat.reduceLT, Nat.reduceLeDiff]); all_goals simp
    have k0 := kTo_nonneg h b i b0.1 U hU
    have k1 := kTo_le0 c.M b (KS c.M b) i U
    by_cases hU2 : U < i + 1
    · have e1 : (i : Int) + 1 - (U : Int) = ((i + 1 - U : Nat) : Int) := by omega
      have m1 := hM (i + 1 - U)
      have s1 := hS i (by omega)
      have s2 := hS U (by omega)
      have hs : kTo c.M b (KS c.M b) i (U + 1) = min (kTo c.M b (KS c.M b) i U) (c.M (i + 1 - U) - (KS c.M b i - KS c.M b U)) := rfl
      (repeat' (first | with_reducible refine splitVC_d (fun _ => ?_) (fun _ => ?_) | ((with_reducible refine And.intro ?_ ?_); focus (first | trivial | (simp only [InK]; omega) | omega | (simp only [InK, ne_eq, and_true, true_and]; omega))) | simp -dsimp only [↓RP, RQ0, RQ1, RQ2, RQ3, implies_true, forall_const, Nat.reduceMul, reduceIte, reduceCtorEq, Nat.reduceAdd, Nat.reduceEqDiff, Nat.reduceLT, Nat.reduceLeDiff, e1, ty5, ty51, I, by2, TY, Int.toNat_natCast, Go.Proofs.Try.results48]))
      all_goals first | (exfalso; omega) | skip
      refine ⟨U + 1, by omega, by omega, weak [] [] ?_ ?_ ?_⟩
      · (simp -dsimp only [↓RP, RQ0, RQ1, RQ2, RQ3, implies_true, forall_const, Nat.reduceMul, reduceIte, reduceCtorEq, Nat.reduceAdd, Nat.reduceEqDiff, Nat.reduceLT, Nat.reduceLeDiff, hs]); all_goals simp
      · (simp -dsimp only [↓RP, RQ0, RQ1, RQ2, RQ3, implies_true, forall_const, Nat.reduceMul, reduceIte, reduceCtorEq, Nat.reduceAdd, Nat.reduceEqDiff, Nat.reduceLT, Nat.reduceLeDiff]); all_goals simp
      · (simp -dsimp only [↓RP, RQ0, RQ1, RQ2, RQ3, implies_true, forall_const, Nat.reduceMul, reduceIte, reduceCtorEq, Nat.reduceAdd, Nat.reduceEqDiff, Nat.reduceLT, Nat.reduceLeDiff]); all_goals simp
    · have hUe : U = i + 1 := by omega
      subst hUe
      have hz : kTo c.M b (KS c.M b) i (i + 1) = K c.M b i := rfl
      have s1 := hS i (by omega)
      rw [hz] at k0 k1
      (repeat' (first | with_reducible refine splitVC_d (fun _ => ?_) (fun _ => ?_) | ((with_reducible refine And.intro ?_ ?_); focus (first | trivial | (simp only [InK]; omega) | omega | (simp only [InK, ne_eq, and_true, true_and]; omega))) | simp -dsimp only [↓RP, RQ0, RQ1, RQ2, RQ3, implies_true, forall_const, Nat.reduceMul, reduceIte, reduceCtorEq, Nat.reduceAdd, Nat.reduceEqDiff, Nat.reduceLT, Nat.reduceLeDiff, hz, ty5, ty51, I, by2, TY, Int.toNat_natCast, Go.Proofs.Try.results48]))
      all_goals first | (exfalso; omega) | skip
      refine ⟨⟨by simp, Nat.le_refl _, fun a b ha hb => by rw [lit1 _ a b ha hb]; rfl, by omega⟩, ⟨by omega, by omega⟩, by omega, by (first | trivial | (simp only [InK]; omega) | omega | (simp only [InK, ne_eq, and_true, true_and]; omega)), ⟨by simp, Nat.le_refl _, fun a b ha hb => by rw [lit1 _ a b ha hb]; rfl, by omega⟩, by (first | trivial | (simp only [InK]; omega) | omega | (simp only [InK, ne_eq, and_true, true_and]; omega)), i + 1, by omega, by omega, weak [(60, some 60), (61, some 106), (62, some 96)] [] ?_ ?_ ?_⟩
      · (simp -dsimp only [↓RP, RQ0, RQ1, RQ2, RQ3, implies_true, forall_const, Nat.reduceMul, reduceIte, reduceCtorEq, Nat.reduceAdd, Nat.reduceEqDiff, Nat.reduceLT, Nat.reduceLeDiff]); all_goals simp
      · have hks := KS_succ c.M b i
        (simp -dsimp only [↓RP, RQ0, RQ1, RQ2, RQ3, implies_true, forall_const, Nat.reduceMul, reduceIte, reduceCtorEq, Nat.reduceAdd, Nat.reduceEqDiff, Nat.reduceLT, Nat.reduceLeDiff, ← hks]); all_goals (try simp)
        exact ⟨fun a h1 h2 => app2 (fun j => .val (.int .i64 (KS c.M b j))) (i + 1) a h1 h2, fun a h1 h2 => app2 (fun j => .val (.int .i64 (K c.M b j))) i a h1 h2⟩
      · (simp -dsimp only [↓RP, RQ0, RQ1, RQ2, RQ3, implies_true, forall_const, Nat.reduceMul, reduceIte, reduceCtorEq, Nat.reduceAdd, Nat.reduceEqDiff, Nat.reduceLT, Nat.reduceLeDiff]); all_goals simp
  · have hin : i = n := by omega
    subst hin
    (repeat' (first | with_reducible refine splitVC_d (fun _ => ?_) (fun _ => ?_) | ((with_reducible refine And.intro ?_ ?_); focus (first | trivial | (simp only [InK]; omega) | omega | (simp only [InK, ne_eq, and_true, true_and]; omega))) | simp -dsimp only [↓RP, RQ0, RQ1, RQ2, RQ3, implies_true, forall_const, Nat.reduceMul, reduceIte, reduceCtorEq, Nat.reduceAdd, Nat.reduceEqDiff, Nat.reduceLT, Nat.reduceLeDiff, ty5, ty51, I, by2, TY, Int.toNat_natCast, Go.Proofs.Try.results48]))
    all_goals first | (exfalso; omega) | skip
    refine ⟨62, _, rfl, ?_, ?_⟩
    · (simp -dsimp only [↓RP, RQ0, RQ1, RQ2, RQ3, implies_true, forall_const, Nat.reduceMul, reduceIte, reduceCtorEq, Nat.reduceAdd, Nat.reduceEqDiff, Nat.reduceLT, Nat.reduceLeDiff, I]); all_goals simp
    · (simp -dsimp only [↓RP, RQ0, RQ1, RQ2, RQ3, implies_true, forall_const, Nat.reduceMul, reduceIte, reduceCtorEq, Nat.reduceAdd, Nat.reduceEqDiff, Nat.reduceLT, Nat.reduceLeDiff])
end Go.Lg
end
section
set_option linter.unusedSimpArgs false
set_option linter.unusedVariables false
set_option linter.defProp false
set_option maxRecDepth 100000
set_option maxHeartbeats 16000000
namespace Go.Lg
open Go.Sx
def Curve.NA (c a : Curve) (p : Nat) (b : Nat → Int) : Nat → Int := Go.Lg.NA (sumTo a.u) (lz (sumTo a.u) c.L1) p b
theorem NA_facts (c a : Curve) (hc : c.Fine) (ha : ∀ i, i < a.m → 0 ≤ a.u i ∧ a.u i ≤ 10000) (p : Nat) (b : Nat → Int) (hb : ∀ j, j < p → 0 ≤ b j ∧ b j ≤ 255) (t : Nat) (ht : t ≤ a.m) :
    lz (sumTo a.u) c.L1 t ≤ c.NA a p b t ∧ c.NA a p b t ≤ sumTo a.u t := by
  have h := NA_all (sumTo a.u) (lz (sumTo a.u) c.L1) p b a.m (fun j hj => (hb j hj).1) rfl (fun t h => by have := (ha t h).1; show sumTo a.u t ≤ sumTo a.u t + a.u t; omega) (fun t _ => lzTo_le0 _ _ t t) t ht
  exact ⟨h.2, h.1⟩
theorem NA_up (c a : Curve) (hc : c.Fine) (ha : ∀ i, i < a.m → 0 ≤ a.u i ∧ a.u i ≤ 10000) (p : Nat) (b : Nat → Int) (hb : ∀ j, j < p → 0 ≤ b j ∧ b j ≤ 255) (t : Nat) (ht : t < a.m) : c.NA a p b t ≤ c.NA a p b (t + 1) :=
  NA_mono (sumTo a.u) (lz (sumTo a.u) c.L1) p b a.m (fun j hj => (hb j hj).1) rfl (fun t h => by have := (ha t h).1; show sumTo a.u t ≤ sumTo a.u t + a.u t; omega) (fun t _ => lzTo_le0 _ _ t t) t ht
theorem c49 (c a : Curve) (hc : c.Fine) (a60 : a.m ≤ 60) (ha : ∀ i, i < a.m → 0 ≤ a.u i ∧ a.u i ≤ 10000) (p : Nat) (hp : p ≤ 300) (b : Nat → Int) (hb : ∀ j, j < p → 0 ≤ b j ∧ b j ≤ 255) : ContractN Go.Proofs.Try.prog 49 [c.sv, a.sv, u8s p b] (.rows 2 1 a.m (fun j _ => I (c.NA a p b (j + 1) - c.NA a p b j))) (.vec 0 a.m 1) := by
  refine contractN_of Go.Proofs.Try.func49 rfl (by kernel_rfl) follows (by kernel_rfl) _ _ _ (by rw [Go.Proofs.Try.ntmps49]; simp) (by simp [OldL, c.old, a.old, u8s_old]) ?_
  unfold I
  have hS := sumTo_bound a.u 10000 a.m ha
  have hD := fun t (ht : t < a.m + 1) => lzTo_bound (sumTo a.u) c.L1 (a.m + 1) t ht (fun i hi => by have := hS i (by omega); omega) (fun i hi => by have := L1_bound c hc i (by omega); omega) t (Nat.le_refl _)
  have hD : ∀ t, t ≤ a.m → 0 ≤ lz (sumTo a.u) c.L1 t ∧ lz (sumTo a.u) c.L1 t ≤ 1000000000 := fun t ht => hD t (by omega)
  have hN := NA_facts c a hc ha p b hb
  have hNs : ∀ i, c.NA a p b (i + 1) = max (c.NA a p b i) (lz (sumTo a.u) c.L1 (i + 1)) + (if 0 < p then (b ((i + 1) % p)).tmod (sumTo a.u (i + 1) - max (c.NA a p b i) (lz (sumTo a.u) c.L1 (i + 1)) + 1) else 0) := fun i => rfl
  have hN0 : c.NA a p b 0 = 0 := rfl
  generalize c.NA a p b = N at *
  conv => arg 4; unfold Curve.sv ints u8s
  (repeat' (first | with_reducible refine splitVC_d (fun _ => ?_) (fun _ => ?_) | ((with_reducible refine And.intro ?_ ?_); focus (first | trivial | (simp only [InK]; omega) | omega | (simp only [InK, ne_eq, and_true, true_and]; omega))) | simp -dsimp only [↓RP, RQ0, RQ1, RQ2, RQ3, implies_true, forall_const, Nat.reduceMul, reduceIte, reduceCtorEq, Nat.reduceAdd, Nat.reduceEqDiff, Nat.reduceLT, Nat.reduceLeDiff, I, by2, ty5, ty51, TY, Int.toNat_natCast, Go.Proofs.Try.results49]))
  refine callN (c52 a (by omega) (fun i hi => by have := ha i hi; omega)) (by (simp -dsimp only [↓RP, RQ0, RQ1, RQ2, RQ3, implies_true, forall_const, Nat.reduceMul, reduceIte, reduceCtorEq, Nat.reduceAdd, Nat.reduceEqDiff, Nat.reduceLT, Nat.reduceLeDiff, Curve.sv, ints, I, B]); all_goals simp) (by (simp -dsimp only [↓RP, RQ0, RQ1, RQ2, RQ3, implies_true, forall_const, Nat.reduceMul, reduceIte, reduceCtorEq, Nat.reduceAdd, Nat.reduceEqDiff, Nat.reduceLT, Nat.reduceLeDiff, I]); all_goals simp) (by (simp -dsimp only [↓RP, RQ0, RQ1, RQ2, RQ3, implies_true, forall_const, Nat.reduceMul, reduceIte, reduceCtorEq, Nat.reduceAdd, Nat.reduceEqDiff, Nat.reduceLT, Nat.reduceLeDiff, I]); all_goals simp) ?_
  (repeat' (first | with_reducible refine splitVC_d (fun _ => ?_) (fun _ => ?_) | ((with_reducible refine And.intro ?_ ?_); focus (first | trivial | (simp only [InK]; omega) | omega | (simp only [InK, ne_eq, and_true, true_and]; omega))) | simp -dsimp only [↓RP, RQ0, RQ1, RQ2, RQ3, implies_true, forall_const, Nat.reduceMul, reduceIte, reduceCtorEq, Nat.reduceAdd, Nat.reduceEqDiff, Nat.reduceLT, Nat.reduceLeDiff, I, by2, ty5, ty51, TY, Int.toNat_natCast, Go.Proofs.Try.results49]))
  refine callN (c58 1 (fun _ => c) (Nat.le_refl _) (by omega) (fun i hi => hc) a.m (by omega)) ?_ (by (simp -dsimp only [↓RP, RQ0, RQ1, RQ2, RQ3, implies_true, forall_const, Nat.reduceMul, reduceIte, reduceCtorEq, Nat.reduceAdd, Nat.reduceEqDiff, Nat.reduceLT, Nat.reduceLeDiff, I]); all_goals simp) (by (simp -dsimp only [↓RP, RQ0, RQ1, RQ2, RQ3, implies_true, forall_const, Nat.reduceMul, reduceIte, reduceCtorEq, Nat.reduceAdd, Nat.reduceEqDiff, Nat.reduceLT, Nat.reduceLeDiff, I]); all_goals simp) ?_
  · (simp -dsimp only [↓RP, RQ0, RQ1, RQ2, RQ3, implies_true, forall_const, Nat.reduceMul, reduceIte, reduceCtorEq, Nat.reduceAdd, Nat.reduceEqDiff, Nat.reduceLT, Nat.reduceLeDiff, chn, I])
    intro i j hi hj
    rw [lit1 _ i j hi hj]
    exact sub_refl _ c.old
  (repeat' (first | with_reducible refine splitVC_d (fun _ => ?_) (fun _ => ?_) | ((with_reducible refine And.intro ?_ ?_); focus (first | trivial | (simp only [InK]; omega) | omega | (simp only [InK, ne_eq, and_true, true_and]; omega))) | simp -dsimp only [↓RP, RQ0, RQ1, RQ2, RQ3, implies_true, forall_const, Nat.reduceMul, reduceIte, reduceCtorEq, Nat.reduceAdd, Nat.reduceEqDiff, Nat.reduceLT, Nat.reduceLeDiff, I, by2, ty5, ty51, TY, Int.toNat_natCast, Go.Proofs.Try.results49]))
  refine callN (c57 (a.m + 1) (sumTo a.u) c.L1 (by omega) (by omega) (fun i hi => by have := hS i (by omega); omega) (fun i hi => by have := L1_bound c hc i (by omega); omega)) (by (simp -dsimp only [↓RP, RQ0, RQ1, RQ2, RQ3, implies_true, forall_const, Nat.reduceMul, reduceIte, reduceCtorEq, Nat.reduceAdd, Nat.reduceEqDiff, Nat.reduceLT, Nat.reduceLeDiff, ints, I]); all_goals (try simp); all_goals exact fun _ _ => rfl) (by (simp -dsimp only [↓RP, RQ0, RQ1, RQ2, RQ3, implies_true, forall_const, Nat.reduceMul, reduceIte, reduceCtorEq, Nat.reduceAdd, Nat.reduceEqDiff, Nat.reduceLT, Nat.reduceLeDiff, I]); all_goals simp) (by (simp -dsimp only [↓RP, RQ0, RQ1, RQ2, RQ3, implies_true, forall_const, Nat.reduceMul, reduceIte, reduceCtorEq, Nat.reduceAdd, Nat.reduceEqDiff, Nat.reduceLT, Nat.reduceLeDiff, I]); all_goals simp) ?_
  (repeat' (first | with_reducible refine splitVC_d (fun _ => ?_) (fun _ => ?_) | ((with_reducible refine And.intro ?_ ?_); focus (first | trivial | (simp only [InK]; omega) | omega | (simp only [InK, ne_eq, and_true, true_and]; omega))) | simp -dsimp only [↓RP, RQ0, RQ1, RQ2, RQ3, implies_true, forall_const, Nat.reduceMul, reduceIte, reduceCtorEq, Nat.reduceAdd, Nat.reduceEqDiff, Nat.reduceLT, Nat.reduceLeDiff, I, by2, ty5, ty51, TY, Int.toNat_natCast, Go.Proofs.Try.results49]))
  refine loop_vc (fun (i : Nat) => i ≤ a.m) (fun i => ⟨[(2, .arr false false p 1 (fun i _ => .val (.int .u8 (b i)))), (7, .vec 60 (a.m + 1) 1), (8, .vec 61 (a.m + 1) 1), (9, .vec 62 i 1), (10, .val (.int .i64 (N i))), (11, .val (.int .i64 ((i : Int) + 1)))], [(60, .rows 2 1 (a.m + 1) (fun j _ => .val (.int .i64 (sumTo a.u j)))), (61, .rows 2 1 (a.m + 1) (fun j _ => .val (.int .i64 (lz (sumTo a.u) c.L1 j)))), (62, .rows 2 1 i (fun j _ => .val (.int .i64 (N (j + 1) - N j))))], 63⟩) (fun i => a.m - i) 0 (Nat.zero_le _) (weak [(60, some 2), (61, some 10), (62, none)] [] ?_ ?_ ?_) fun i hi => ?_
  · (simp -dsimp only [↓RP, RQ0, RQ1, RQ2, RQ3, implies_true, forall_const, Nat.reduceMul, reduceIte, reduceCtorEq, Nat.reduceAdd, Nat.reduceEqDiff, Nat.reduceLT, Nat.reduceLeDiff, hN0]); all_goals simp
  · (simp -dsimp only [↓RP, RQ0, RQ1, RQ2, RQ3, implies_true, forall_const, Nat.reduceMul, reduceIte, reduceCtorEq, Nat.reduceAdd, Nat.reduceEqDiff, Nat.reduceLT, Nat.reduceLeDiff]); all_goals (try simp)
  · (simp -dsimp only [↓RP, RQ0, RQ1, RQ2, RQ3, implies_true, forall_const, Nat.reduceMul, reduceIte, reduceCtorEq, Nat.reduceAdd, Nat.reduceEqDiff, Nat.reduceLT, Nat.reduceLeDiff]); all_goals simp
  by_cases hlt : i < a.m
  · have eP : (i : Int) + 1 = ((i + 1 : Nat) : Int) := by omega
    have s1 := hS (i + 1) (by omega)
    have d1 := hD (i + 1) (by omega)
    have n1 := hN i (by omega)
    have d0 := hD i (by omega)
    have s0 := hS i (by omega)
    have n2 := hN (i + 1) (by omega)
    have ns := hNs i
    by_cases hp0 : 0 < p
    · rw [if_pos hp0] at ns
      have hm := tmN (i + 1) p
      have hml := Nat.mod_lt (i + 1) hp0
      have b1 := hb ((i + 1) % p) hml
      generalize (i + 1) % p = z at *
      have t0 := Int.tmod_nonneg (sumTo a.u (i + 1) - max (N i) (lz (sumTo a.u) c.L1 (i + 1)) + 1) b1.1
      (repeat' (first | with_reducible refine splitVC_d (fun _ => ?_) (fun _ => ?_) | ((with_reducible refine And.intro ?_ ?_); focus (first | trivial | (simp only [InK]; omega) | omega | (simp only [InK, ne_eq, and_true, true_and]; omega))) | simp -dsimp only [↓RP, RQ0, RQ1, RQ2, RQ3, implies_true, forall_const, Nat.reduceMul, reduceIte, reduceCtorEq, Nat.reduceAdd, Nat.reduceEqDiff, Nat.reduceLT, Nat.reduceLeDiff, eP, hm, I, by2, ty5, ty51, TY, Int.toNat_natCast, Go.Proofs.Try.results49]))
      all_goals first | (exfalso; omega) | skip
      simp only [← ns]
      refine ⟨⟨by simp, Nat.le_refl _, fun a b ha hb => by rw [lit1 _ a b ha hb]; rfl, by omega⟩, by (first | trivial | (simp only [InK]; omega) | omega | (simp only [InK, ne_eq, and_true, true_and]; omega)), i + 1, by omega, by omega, weak [(60, some 60), (61, some 61), (62, some 101)] [] ?_ ?_ ?_⟩
      · (simp -dsimp only [↓RP, RQ0, RQ1, RQ2, RQ3, implies_true, forall_const, Nat.reduceMul, reduceIte, reduceCtorEq, Nat.reduceAdd, Nat.reduceEqDiff, Nat.reduceLT, Nat.reduceLeDiff]); all_goals simp
      · (simp -dsimp only [↓RP, RQ0, RQ1, RQ2, RQ3, implies_true, forall_const, Nat.reduceMul, reduceIte, reduceCtorEq, Nat.reduceAdd, Nat.reduceEqDiff, Nat.reduceLT, Nat.reduceLeDiff]); all_goals (try simp)
        exact fun x h1 h2 => app2 (fun j => .val (.int .i64 (N (j + 1) - N j))) i x h1 h2
      · (simp -dsimp only [↓RP, RQ0, RQ1, RQ2, RQ3, implies_true, forall_const, Nat.reduceMul, reduceIte, reduceCtorEq, Nat.reduceAdd, Nat.reduceEqDiff, Nat.reduceLT, Nat.reduceLeDiff]); all_goals simp
    · rw [if_neg hp0, Int.add_zero] at ns
      (repeat' (first | with_reducible refine splitVC_d (fun _ => ?_) (fun _ => ?_) | ((with_reducible refine And.intro ?_ ?_); focus (first | trivial | (simp only [InK]; omega) | omega | (simp only [InK, ne_eq, and_true, true_and]; omega))) | simp -dsimp only [↓RP, RQ0, RQ1, RQ2, RQ3, implies_true, forall_const, Nat.reduceMul, reduceIte, reduceCtorEq, Nat.reduceAdd, Nat.reduceEqDiff, Nat.reduceLT, Nat.reduceLeDiff, eP, I, by2, ty5, ty51, TY, Int.toNat_natCast, Go.Proofs.Try.results49]))
      all_goals first | (exfalso; omega) | skip
      simp only [← ns]
      refine ⟨⟨by simp, Nat.le_refl _, fun a b ha hb => by rw [lit1 _ a b ha hb]; rfl, by omega⟩, by (first | trivial | (simp only [InK]; omega) | omega | (simp only [InK, ne_eq, and_true, true_and]; omega)), i + 1, by omega, by omega, weak [(60, some 60), (61, some 61), (62, some 82)] [] ?_ ?_ ?_⟩
      · (simp -dsimp only [↓RP, RQ0, RQ1, RQ2, RQ3, implies_true, forall_const, Nat.reduceMul, reduceIte, reduceCtorEq, Nat.reduceAdd, Nat.reduceEqDiff, Nat.reduceLT, Nat.reduceLeDiff]); all_goals simp
      · (simp -dsimp only [↓RP, RQ0, RQ1, RQ2, RQ3, implies_true, forall_const, Nat.reduceMul, reduceIte, reduceCtorEq, Nat.reduceAdd, Nat.reduceEqDiff, Nat.reduceLT, Nat.reduceLeDiff]); all_goals (try simp)
        exact fun x h1 h2 => app2 (fun j => .val (.int .i64 (N (j + 1) - N j))) i x h1 h2
      · (simp -dsimp only [↓RP, RQ0, RQ1, RQ2, RQ3, implies_true, forall_const, Nat.reduceMul, reduceIte, reduceCtorEq, Nat.reduceAdd, Nat.reduceEqDiff, Nat.reduceLT, Nat.reduceLeDiff]); all_goals simp
  · have hin : i = a.m := by omega
    subst hin
    (repeat' (first | with_reducible refine splitVC_d (fun _ => ?_) (fun _ => ?_) | ((with_reducible refine And.intro ?_ ?_); focus (first | trivial | (simp only [InK]; omega) | omega | (simp only [InK, ne_eq, and_true, true_and]; omega))) | simp -dsimp only [↓RP, RQ0, RQ1, RQ2, RQ3, implies_true, forall_const, Nat.reduceMul, reduceIte, reduceCtorEq, Nat.reduceAdd, Nat.reduceEqDiff, Nat.reduceLT, Nat.reduceLeDiff, I, by2, ty5, ty51, TY, Int.toNat_natCast, Go.Proofs.Try.results49]))
    all_goals first | (exfalso; omega) | skip
    refine ⟨62, _, rfl, ?_, ?_⟩
    · (simp -dsimp only [↓RP, RQ0, RQ1, RQ2, RQ3, implies_true, forall_const, Nat.reduceMul, reduceIte, reduceCtorEq, Nat.reduceAdd, Nat.reduceEqDiff, Nat.reduceLT, Nat.reduceLeDiff, I]); all_goals simp
    · (simp -dsimp only [↓RP, RQ0, RQ1, RQ2, RQ3, implies_true, forall_const, Nat.reduceMul, reduceIte, reduceCtorEq, Nat.reduceAdd, Nat.reduceEqDiff, Nat.reduceLT, Nat.reduceLeDiff])
end Go.Lg
end
section
set_option linter.unusedSimpArgs false
set_option linter.unusedVariables false
set_option linter.defProp false
set_option maxRecDepth 100000
set_option maxHeartbeats 16000000
namespace Go.Lg
open Go.Sx
def thrR (a : Curve) (C : Nat → Curve) (i : Nat) : Curve := ⟨a.m, fun j => thr a.S C i (j + 1) - thr a.S C i j⟩
theorem thr_zero (a : Curve) (C : Nat → Curve) : ∀ i, thr a.S C i 0 = 0
  | 0 => rfl
  | i + 1 => by
    show foldMin (fun p => thr a.S C i (0 - p) + (C i).L1 p) 0 = 0
    show thr a.S C i (0 - 0) + (C i).L1 0 = 0
    rw [Nat.sub_self, thr_zero a C i, L1_zero]; rfl
theorem thrR_S (a : Curve) (C : Nat → Curve) (i : Nat) : (thrR a C i).S = thr a.S C i := by
  funext t
  show sumTo (fun j => thr a.S C i (j + 1) - thr a.S C i j) t = _
  rw [sum_tel, thr_zero]; omega
theorem thrR_zero (a : Curve) (C : Nat → Curve) : thrR a C 0 = a := by
  unfold thrR
  have : (fun j => thr a.S C 0 (j + 1) - thr a.S C 0 j) = a.u := by
    funext j
    show sumTo a.u j + a.u j - sumTo a.u j = a.u j
    omega
  rw [this]
theorem thr_mono1 (a : Curve) (C : Nat → Curve) (ha : Row a) : ∀ i, (∀ j, j < i → (C j).Fine) → ∀ t, t < a.m → thr a.S C i t ≤ thr a.S C i (t + 1)
  | 0, _, t, ht => S_mono1 ha t ht
  | i + 1, h, t, ht => conv_mono1 _ _ t (fun j hj => thr_mono1 a C ha i (fun j hj => h j (by omega)) j (by omega)) (fun j _ => L1_mono1 _ (h i (by omega)) j)
theorem thr_le (a : Curve) (C : Nat → Curve) : ∀ i t, thr a.S C i t ≤ a.S t
  | 0, t => Int.le_refl _
  | i + 1, t => by
    have h1 := conv_le' (thr a.S C i) (C i).L1 t t 0 (by omega)
    have h2 := thr_le a C i t
    rw [L1_zero] at h1
    show conv (thr a.S C i) (C i).L1 t ≤ _
    omega
theorem thr_mono (a : Curve) (C : Nat → Curve) (ha : Row a) (i : Nat) (h : ∀ j, j < i → (C j).Fine) : ∀ t s, s ≤ t → t ≤ a.m → thr a.S C i s ≤ thr a.S C i t
  | 0, s, h1, _ => by have : s = 0 := by omega
                      subst this; exact Int.le_refl _
  | t + 1, s, h1, h2 => by
    by_cases e : s = t + 1
    · subst e; exact Int.le_refl _
    · exact Int.le_trans (thr_mono a C ha i h t s (by omega) (by omega)) (thr_mono1 a C ha i h t (by omega))
theorem thrR_row (a : Curve) (C : Nat → Curve) (ha : Row a) (hs : a.S a.m ≤ 10000) (i : Nat) (h : ∀ j, j < i → (C j).Fine) : Row (thrR a C i) := by
  refine ⟨ha.m60, fun j hj => ?_⟩
  have hj : j < a.m := hj
  have h1 := thr_mono1 a C ha i h j hj
  have h2 := thr_mono a C ha i h j 0 (by omega) (by omega)
  have h3 := thr_le a C i (j + 1)
  have h4 := S_mono ha a.m (j + 1) (by omega) (Nat.le_refl _)
  rw [thr_zero] at h2
  exact ⟨by show 0 ≤ thr a.S C i (j + 1) - thr a.S C i j; omega, by show thr a.S C i (j + 1) - thr a.S C i j ≤ 10000; omega⟩
theorem thr_add (a : Curve) (C : Nat → Curve) (i t : Nat) : addS (C i) (thrR a C i) t = thr a.S C (i + 1) t := by
  show lz (thrR a C i).S (C i).L1 t = conv (thr a.S C i) (C i).L1 t
  rw [thrR_S, lz_conv _ _ (L1_zero _)]
theorem thr_check (a : Curve) (C : Nat → Curve) (ha : Row a) (hs : a.S a.m ≤ 10000) (i : Nat) (h : ∀ j, j < i + 1 → (C j).Fine) : checkAddV (C i) (thrR a C i) (thrR a C (i + 1)) = 0 := by
  have r1 := row_rErr (thrR_row a C ha hs i (fun j hj => h j (by omega)))
  have r2 := row_rErr (thrR_row a C ha hs (i + 1) h)
  have hle : ∀ t, thr a.S C (i + 1) t ≤ thr a.S C i t := fun t => by
    have h1 := conv_le' (thr a.S C i) (C i).L1 t t 0 (by omega)
    rw [L1_zero] at h1
    show conv (thr a.S C i) (C i).L1 t ≤ _
    omega
  have hr : rowsV (thrR a C i) (thrR a C (i + 1)) = 0 := by
    unfold rowsV
    rw [if_pos r1, if_pos r2, if_pos (show (thrR a C i).m = (thrR a C (i + 1)).m from rfl), if_pos]
    intro t ht
    rw [thrR_S, thrR_S]
    exact hle t
  unfold checkAddV
  rw [if_pos (Curve.err_fine (h i (by omega))), if_pos hr, if_pos]
  intro t ht
  rw [thr_add, thrR_S]
  exact Int.le_refl _
theorem c56 (n : Nat) (C : Nat → Curve) (a : Curve) (n1 : 1 ≤ n) (n3 : n ≤ 1000) (hC : ∀ i, i < n → (C i).Fine) (ha : Row a) (hs : a.S a.m ≤ 10000) : Contract Go.Proofs.Try.prog 56 [chn n C, a.sv] (.tup [.arr true false a.m 1 (fun j _ => I (thr a.S C n (j + 1) - thr a.S C n j)), B true]) := by
  refine contract_of Go.Proofs.Try.func56 rfl (by kernel_rfl) follows (by kernel_rfl) _ _ (by rw [Go.Proofs.Try.ntmps56]; simp) (by simp only [OldL, a.old, chn_old, and_self, and_true, true_and]) ?_
  unfold I B
  have a60 := ha.m60
  have e0 : a.u = fun j => thr a.S C 0 (j + 1) - thr a.S C 0 j := congrArg Curve.u (thrR_zero a C).symm
  conv => arg 4; unfold chn Curve.sv ints
  (repeat' (first | with_reducible refine splitVC_d (fun _ => ?_) (fun _ => ?_) | ((with_reducible refine And.intro ?_ ?_); focus (first | trivial | (simp only [InK]; omega) | omega | (simp only [InK, ne_eq, and_true, true_and]; omega))) | simp -dsimp only [↓RP, RQ0, RQ1, RQ2, RQ3, implies_true, forall_const, Nat.reduceMul, reduceIte, reduceCtorEq, Nat.reduceAdd, Nat.reduceEqDiff, Nat.reduceLT, Nat.reduceLeDiff, tup3, B, I, decide_true, decide_false, Bool.not_true, Bool.not_false, eq_self, and_self, Nat.zero_add, TY, Int.toNat_natCast, Go.Proofs.Try.results56]))
  refine loop_vc (fun (i : Nat) => i ≤ n) (fun i => ⟨[(0, .arr false false n 1 (fun i _ => .arr false false (C i).m 1 (fun j _ => .val (.int .i64 ((C i).u j))))), (6, .arr (decide (0 < i)) false a.m 1 (fun j _ => .val (.int .i64 (thr a.S C i (j + 1) - thr a.S C i j)))), (7, .val (.int .i64 i))], [], 0⟩) (fun i => n - i) 0 (Nat.zero_le _) (weak [] [] ?_ ?_ ?_) fun i hi => ?_
  · rw [e0]
    (simp -dsimp only [↓RP, RQ0, RQ1, RQ2, RQ3, implies_true, forall_const, Nat.reduceMul, reduceIte, reduceCtorEq, Nat.reduceAdd, Nat.reduceEqDiff, Nat.reduceLT, Nat.reduceLeDiff]); all_goals simp
  · (simp -dsimp only [↓RP, RQ0, RQ1, RQ2, RQ3, implies_true, forall_const, Nat.reduceMul, reduceIte, reduceCtorEq, Nat.reduceAdd, Nat.reduceEqDiff, Nat.reduceLT, Nat.reduceLeDiff])
  · (simp -dsimp only [↓RP, RQ0, RQ1, RQ2, RQ3, implies_true, forall_const, Nat.reduceMul, reduceIte, reduceCtorEq, Nat.reduceAdd, Nat.reduceEqDiff, Nat.reduceLT, Nat.reduceLeDiff])
  by_cases hlt : i < n
  · have hr := thrR_row a C ha hs i (fun j hj => hC j (by omega))
    have hck := thr_check a C ha hs i (fun j hj => hC j (by omega))
    have h34 := c34 (C i) (thrR a C i) (hC i hlt) hr
    simp only [thr_add] at h34
    simp only [thrR] at hck
    (repeat' (first | with_reducible refine splitVC_d (fun _ => ?_) (fun _ => ?_) | ((with_reducible refine And.intro ?_ ?_); focus (first | trivial | (simp only [InK]; omega) | omega | (simp only [InK, ne_eq, and_true, true_and]; omega))) | simp -dsimp only [↓RP, RQ0, RQ1, RQ2, RQ3, implies_true, forall_const, Nat.reduceMul, reduceIte, reduceCtorEq, Nat.reduceAdd, Nat.reduceEqDiff, Nat.reduceLT, Nat.reduceLeDiff, tup3, B, I, decide_true, decide_false, Bool.not_true, Bool.not_false, eq_self, and_self, Nat.zero_add, TY, Int.toNat_natCast, Go.Proofs.Try.results56]))
    all_goals first | (exfalso; omega) | skip
    refine callN h34 (by (simp -dsimp only [↓RP, RQ0, RQ1, RQ2, RQ3, implies_true, forall_const, Nat.reduceMul, reduceIte, reduceCtorEq, Nat.reduceAdd, Nat.reduceEqDiff, Nat.reduceLT, Nat.reduceLeDiff, thrR, Curve.sv, ints, I, B]); all_goals simp) (by (simp -dsimp only [↓RP, RQ0, RQ1, RQ2, RQ3, implies_true, forall_const, Nat.reduceMul, reduceIte, reduceCtorEq, Nat.reduceAdd, Nat.reduceEqDiff, Nat.reduceLT, Nat.reduceLeDiff, I]); all_goals simp) (by (simp -dsimp only [↓RP, RQ0, RQ1, RQ2, RQ3, implies_true, forall_const, Nat.reduceMul, reduceIte, reduceCtorEq, Nat.reduceAdd, Nat.reduceEqDiff, Nat.reduceLT, Nat.reduceLeDiff, I]); all_goals simp) ?_
    (repeat' (first | with_reducible refine splitVC_d (fun _ => ?_) (fun _ => ?_) | ((with_reducible refine And.intro ?_ ?_); focus (first | trivial | (simp only [InK]; omega) | omega | (simp only [InK, ne_eq, and_true, true_and]; omega))) | simp -dsimp only [↓RP, RQ0, RQ1, RQ2, RQ3, implies_true, forall_const, Nat.reduceMul, reduceIte, reduceCtorEq, Nat.reduceAdd, Nat.reduceEqDiff, Nat.reduceLT, Nat.reduceLeDiff, thrR, tup3, B, I, decide_true, decide_false, Bool.not_true, Bool.not_false, eq_self, and_self, Nat.zero_add, TY, Int.toNat_natCast, Go.Proofs.Try.results56]))
    refine callVC (c39 (C i) (thrR a C i) (thrR a C (i + 1))) (by (simp -dsimp only [↓RP, RQ0, RQ1, RQ2, RQ3, implies_true, forall_const, Nat.reduceMul, reduceIte, reduceCtorEq, Nat.reduceAdd, Nat.reduceEqDiff, Nat.reduceLT, Nat.reduceLeDiff, thrR, Curve.sv, ints, I, B]); all_goals simp) (by (simp -dsimp only [↓RP, RQ0, RQ1, RQ2, RQ3, implies_true, forall_const, Nat.reduceMul, reduceIte, reduceCtorEq, Nat.reduceAdd, Nat.reduceEqDiff, Nat.reduceLT, Nat.reduceLeDiff, I])) ?_
    (repeat' (first | with_reducible refine splitVC_d (fun _ => ?_) (fun _ => ?_) | ((with_reducible refine And.intro ?_ ?_); focus (first | trivial | (simp only [InK]; omega) | omega | (simp only [InK, ne_eq, and_true, true_and]; omega))) | simp -dsimp only [↓RP, RQ0, RQ1, RQ2, RQ3, implies_true, forall_const, Nat.reduceMul, reduceIte, reduceCtorEq, Nat.reduceAdd, Nat.reduceEqDiff, Nat.reduceLT, Nat.reduceLeDiff, thrR, hck, tup3, B, I, decide_true, decide_false, Bool.not_true, Bool.not_false, eq_self, and_self, Nat.zero_add, TY, Int.toNat_natCast, Go.Proofs.Try.results56]))
    all_goals first | (exfalso; omega) | skip
    refine ⟨i + 1, by omega, by omega, weak [] [9] ?_ ?_ ?_⟩
    · (simp -dsimp only [↓RP, RQ0, RQ1, RQ2, RQ3, implies_true, forall_const, Nat.reduceMul, reduceIte, reduceCtorEq, Nat.reduceAdd, Nat.reduceEqDiff, Nat.reduceLT, Nat.reduceLeDiff]); all_goals simp
    · (simp -dsimp only [↓RP, RQ0, RQ1, RQ2, RQ3, implies_true, forall_const, Nat.reduceMul, reduceIte, reduceCtorEq, Nat.reduceAdd, Nat.reduceEqDiff, Nat.reduceLT, Nat.reduceLeDiff])
    · (simp -dsimp only [↓RP, RQ0, RQ1, RQ2, RQ3, implies_true, forall_const, Nat.reduceMul, reduceIte, reduceCtorEq, Nat.reduceAdd, Nat.reduceEqDiff, Nat.reduceLT, Nat.reduceLeDiff])
  · have hin : i = n := by omega
    subst hin
    (repeat' (first | with_reducible refine splitVC_d (fun _ => ?_) (fun _ => ?_) | ((with_reducible refine And.intro ?_ ?_); focus (first | trivial | (simp only [InK]; omega) | omega | (simp only [InK, ne_eq, and_true, true_and]; omega))) | simp -dsimp only [↓RP, RQ0, RQ1, RQ2, RQ3, implies_true, forall_const, Nat.reduceMul, reduceIte, reduceCtorEq, Nat.reduceAdd, Nat.reduceEqDiff, Nat.reduceLT, Nat.reduceLeDiff, tup3, B, I, decide_true, decide_false, Bool.not_true, Bool.not_false, eq_self, and_self, Nat.zero_add, TY, Int.toNat_natCast, Go.Proofs.Try.results56]))
    all_goals first | (exfalso; omega) | skip
    exact ⟨decide_eq_true (by omega), fun h => h.elim⟩
end Go.Lg
end
section
set_option linter.unusedSimpArgs false
set_option linter.unusedVariables false
set_option maxRecDepth 100000
set_option maxHeartbeats 4000000
namespace Go.Lg
open Go.Sx
theorem thr_Lc (A : Nat → Int) (C : Nat → Curve) (n k : Nat) (h : 1 ≤ n) : thr A C n k = conv A (Lc n C) k := by
  obtain ⟨i, rfl⟩ : ∃ i, n = i + 1 := ⟨n - 1, by omega⟩
  exact thr_conv A C i k
theorem rateTo_at (c : Curve) (h : c.Fine) : ∀ i, i ≤ c.m → ∃ p, p < c.m ∧ c.rateTo i = c.rt p
  | 0, _ => ⟨c.m - 1, by have := h.m1; omega, rfl⟩
  | i + 1, hi => by
    simp only [Curve.rateTo]
    split
    · exact ⟨i, by omega, rfl⟩
    · exact rateTo_at c h i (by omega)
theorem mul_le_l {a b c : Int} (h : a ≤ b) (hc : 0 ≤ c) : c * a ≤ c * b := Int.mul_le_mul_of_nonneg_left h hc
structure RateOf (c : Curve) (N D : Int) (P : Nat) : Prop where
  n0 : 0 ≤ N
  d0 : 0 < D
  p1 : 1 ≤ P
  pm : P ≤ c.m
  eq : c.u (P - 1) * D = N * P
theorem rate_at (c : Curve) (h : c.Fine) : ∃ P, RateOf c (c.rate true).1 (c.rate true).2 P := by
  obtain ⟨p, hp, e⟩ := rateTo_at c h c.m (Nat.le_refl _)
  have e : c.rate true = c.rt p := e
  have ⟨h1, h2⟩ := rt_eq c h p hp
  rw [e]
  refine ⟨p + 1, by omega, by omega, by omega, by omega, ?_⟩
  rw [Nat.add_sub_cancel]
  exact h1.symm
theorem M_times (c : Curve) (h : c.Fine) (p : Nat) (hp : p < c.m) : ∀ q : Nat, c.M ((p + 1) * q) ≤ q * c.u p
  | 0 => by simp [M_zero]
  | q + 1 => by
    have h1 := M_times c h p hp q
    have h2 := M_sub h ((p + 1) * q) (p + 1)
    have h3 := M_le (c := c) p p hp (Nat.le_refl _)
    rw [Nat.sub_self, M_zero] at h3
    rw [show (p + 1) * (q + 1) = (p + 1) * q + (p + 1) by rw [Nat.mul_add, Nat.mul_one]]
    have e : ((q + 1 : Nat) : Int) * c.u p = q * c.u p + c.u p := by rw [show ((q + 1 : Nat) : Int) = (q : Int) + 1 by omega, Int.add_mul, Int.one_mul]
    rw [e]
    omega
theorem M_rate (c : Curve) (h : c.Fine) {N D : Int} {P : Nat} (r : RateOf c N D P) (k : Nat) : D * c.M k ≤ N * (k + 5 : Nat) := by
  obtain ⟨p, rfl⟩ : ∃ p, P = p + 1 := ⟨P - 1, by have := r.p1; omega⟩
  have hp := r.pm
  have h6 := h.m6
  have e := r.eq
  rw [Nat.add_sub_cancel] at e
  have d0 := r.d0
  have q1 := Nat.div_add_mod (k + p) (p + 1)
  have q2 := Nat.mod_lt (k + p) (show 0 < p + 1 by omega)
  generalize (k + p) / (p + 1) = q at q1
  have h1 := M_mono h ((p + 1) * q) k (by omega)
  have h2 := M_times c h p (by omega) q
  have h3 : D * c.M k ≤ D * (q * c.u p) := mul_le_l (Int.le_trans h1 h2) (by omega)
  have h4 : D * ((q : Int) * c.u p) = N * ((p + 1) * q : Nat) := by
    rw [Int.mul_comm (q : Int), ← Int.mul_assoc, Int.mul_comm D, e, Int.mul_assoc, ← Int.natCast_mul]
  have h5 : N * ((p + 1) * q : Nat) ≤ N * (k + 5 : Nat) := mul_le_l (by omega) r.n0
  omega
theorem L1_rate (c : Curve) (h : c.Fine) (N D : Int) (n0 : 0 ≤ N) (d0 : 0 < D) (hf : N * c.m ≤ c.u (c.m - 1) * D) (k : Nat) : N * ((k : Int) - 5) ≤ D * c.L1 k := by
  obtain ⟨q, r, hr, rfl⟩ := split_k c h k
  rw [L1_eq c q r hr]
  have h6 := h.m6
  have h0 : (0 : Int) ≤ (if 0 < r then c.u (r - 1) else 0) := by
    split
    · exact (h.rg (r - 1) (by omega)).1
    · omega
  have h1 : N * (((c.m * q + r : Nat) : Int) - 5) ≤ N * (c.m * q : Nat) := mul_le_l (by omega) n0
  have h2 : N * (c.m * q : Nat) ≤ D * ((q : Int) * c.u (c.m - 1)) := by
    rw [Int.natCast_mul, ← Int.mul_assoc, Int.mul_comm _ (q : Int), ← Int.mul_assoc D, Int.mul_comm D, Int.mul_assoc (q : Int) D, Int.mul_comm D]
    exact mul_le_l hf (by omega)
  have h3 : D * ((q : Int) * c.u (c.m - 1)) ≤ D * ((q : Int) * c.u (c.m - 1) + (if 0 < r then c.u (r - 1) else 0)) := mul_le_l (by omega) (by omega)
  exact Int.le_trans h1 (Int.le_trans h2 h3)
theorem Ls_rate (C : Nat → Curve) (N D : Int) (n0 : 0 ≤ N) (d0 : 0 < D) : ∀ i, (∀ j, j ≤ i → (C j).Fine ∧ N * (C j).m ≤ (C j).u ((C j).m - 1) * D) → ∀ k : Nat, N * ((k : Int) - 5 * (i + 1)) ≤ D * Ls C i k
  | 0, h, k => by
    have := L1_rate (C 0) (h 0 (by omega)).1 N D n0 d0 (h 0 (by omega)).2 k
    show _ ≤ D * (C 0).L1 k
    simpa using this
  | i + 1, h, k => by
    obtain ⟨p, hp, e⟩ := Ls_at C i k
    rw [e]
    have e4 : D * (Ls C i (k - p) + (C (i + 1)).L1 p) = D * Ls C i (k - p) + D * (C (i + 1)).L1 p := Int.mul_add ..
    have h1 := Ls_rate C N D n0 d0 i (fun j hj => h j (by omega)) (k - p)
    have h2 := L1_rate (C (i + 1)) (h (i + 1) (by omega)).1 N D n0 d0 (h (i + 1) (by omega)).2 p
    have h3 : N * ((k : Int) - 5 * ((i + 1 : Nat) + 1)) = N * (((k - p : Nat) : Int) - 5 * (i + 1)) + N * ((p : Int) - 5) := by
      rw [← Int.mul_add]
      congr 1
      omega
    omega
theorem not_slow (c d : Curve) (hc : c.Fine) (hd : d.Fine) (h : ¬ fless (d.rate false) (c.rate true)) : ((c.rate true).1 : Int) * d.m ≤ d.u (d.m - 1) * (c.rate true).2 := by
  have h1 := hd.m1
  have ⟨e1, e2⟩ := rt_eq d hd (d.m - 1) (by omega)
  have e0 : d.rate false = d.rt (d.m - 1) := rfl
  rw [show d.m - 1 + 1 = d.m by omega] at e1
  unfold fless at h
  rw [e0] at h
  generalize (d.rt (d.m - 1)).1 = a at *
  generalize (d.rt (d.m - 1)).2 = b at *
  generalize (c.rate true).1 = N at *
  generalize (c.rate true).2 = D at *
  generalize d.u (d.m - 1) = u at *
  generalize d.m = m at *
  have h : (N : Int) * b ≤ a * D := by omega
  have h2 : (m : Int) * (N * b) ≤ m * (a * D) := mul_le_l h (by omega)
  have h3 : (m : Int) * (a * D) = b * (u * D) := by
    rw [← Int.mul_assoc, Int.mul_comm (m : Int), e1, Int.mul_comm u, Int.mul_assoc]
  have h4 : (m : Int) * (N * b) = b * (N * m) := by rw [← Int.mul_assoc, Int.mul_comm _ (b : Int), Int.mul_comm (m : Int)]
  rw [h3, h4] at h2
  exact Int.le_of_mul_le_mul_left h2 (by omega)
theorem ask_20 {c : Curve} {n : Nat} {C : Nat → Curve} (h : Ask c n C) (k : Nat) : c.M k ≤ Lc n C (k + 20) := by
  obtain ⟨P, r⟩ := rate_at c h.fine
  have n1 := h.n1
  have n3 := h.n3
  have h1 := M_rate c h.fine r k
  have h2 := Ls_rate C _ _ r.n0 r.d0 (n - 1) (fun j hj => ⟨h.fines j (by omega), not_slow c (C j) h.fine (h.fines j (by omega)) fun hs => h.fast ⟨j, by omega, hs⟩⟩) (k + 20)
  have h3 : ((c.rate true).1 : Int) * (k + 5 : Nat) ≤ (c.rate true).1 * (((k + 20 : Nat) : Int) - 5 * ((n - 1 : Nat) + 1)) := mul_le_l (by omega) r.n0
  exact Int.le_of_mul_le_mul_left (Int.le_trans h1 (Int.le_trans h3 h2)) r.d0
theorem Lc_mono {c : Curve} {n : Nat} {C : Nat → Curve} (h : Ask c n C) (i j : Nat) (hij : i ≤ j) : Lc n C i ≤ Lc n C j := by
  have n1 := h.n1
  exact mono_of (Ls_mono1 C (n - 1) (fun j hj => h.fines j (by omega))) j i hij
theorem lateB_20 {c : Curve} {n : Nat} {C : Nat → Curve} (h : Ask c n C) : 0 ≤ lateB c n C ∧ lateB c n C ≤ 20 := by
  refine ⟨bestTo_nonneg _ _, bestTo_le _ 20 (by omega) 181 fun k hk => ?_⟩
  have h1 := lateF_false c.M (Lc n C) k (k + 20) (by omega)
  have h2 := ask_20 h k
  by_cases h3 : k + 20 < lateF c.M (Lc n C) k
  · have := h1 h3; omega
  · omega
theorem lateB_says {c : Curve} {n : Nat} {C : Nat → Curve} (h : Ask c n C) (k j : Nat) (hk : k ≤ 180) (hj : (k : Int) + lateB c n C ≤ j) : c.M k ≤ Lc n C j := by
  have h20 := lateB_20 h
  have h1 : (lateF c.M (Lc n C) k : Int) - k ≤ lateB c n C := le_bestTo (fun k => (lateF c.M (Lc n C) k : Int) - k) 181 k (by omega)
  have h2 := lateF_true c.M (Lc n C) k (by omega) (by omega)
  have h3 := Lc_mono h (lateF c.M (Lc n C) k) j (by omega)
  omega
theorem waitB_says {c : Curve} {n : Nat} {C : Nat → Curve} (k : Nat) (hk : k ≤ 180) : c.M k - Lc n C k ≤ waitB c n C := le_bestTo (fun k => c.M k - Lc n C k) 181 k (by omega)
end Go.Lg
end
section
set_option linter.unusedSimpArgs false
set_option linter.unusedVariables false
set_option linter.defProp false
set_option maxRecDepth 100000
set_option maxHeartbeats 16000000
namespace Go.Lg
open Go.Sx
theorem c51 (c : Curve) : Contract Go.Proofs.Try.prog 51 [c.sv] (B (decide (c.err = 0))) := by
  refine contract_of Go.Proofs.Try.func51 rfl (by kernel_rfl) follows (by kernel_rfl) _ _ (by rw [Go.Proofs.Try.ntmps51]; simp) (by simp only [OldL, c.old, and_self, and_true, true_and]) ?_
  conv => arg 4; unfold Curve.sv ints
  (repeat' (first | with_reducible refine splitVC_d (fun _ => ?_) (fun _ => ?_) | ((with_reducible refine And.intro ?_ ?_); focus (first | trivial | (simp only [InK]; omega) | omega | (simp only [InK, ne_eq, and_true, true_and]; omega))) | simp -dsimp only [↓RP, RQ0, RQ1, RQ2, RQ3, implies_true, forall_const, Nat.reduceMul, reduceIte, reduceCtorEq, Nat.reduceAdd, Nat.reduceEqDiff, Nat.reduceLT, Nat.reduceLeDiff, tup3, B, I, decide_true, decide_false, Bool.not_true, Bool.not_false, eq_self, and_self, Nat.zero_add, Int.toNat_natCast, TY, Go.Proofs.Try.results51]))
  refine callVC (c17 c) (by (simp -dsimp only [↓RP, RQ0, RQ1, RQ2, RQ3, implies_true, forall_const, Nat.reduceMul, reduceIte, reduceCtorEq, Nat.reduceAdd, Nat.reduceEqDiff, Nat.reduceLT, Nat.reduceLeDiff, Curve.sv, ints, I, B]); all_goals simp) (by (simp -dsimp only [↓RP, RQ0, RQ1, RQ2, RQ3, implies_true, forall_const, Nat.reduceMul, reduceIte, reduceCtorEq, Nat.reduceAdd, Nat.reduceEqDiff, Nat.reduceLT, Nat.reduceLeDiff, B])) ?_
  (repeat' (first | with_reducible refine splitVC_d (fun _ => ?_) (fun _ => ?_) | ((with_reducible refine And.intro ?_ ?_); focus (first | trivial | (simp only [InK]; omega) | omega | (simp only [InK, ne_eq, and_true, true_and]; omega))) | simp -dsimp only [↓RP, RQ0, RQ1, RQ2, RQ3, implies_true, forall_const, Nat.reduceMul, reduceIte, reduceCtorEq, Nat.reduceAdd, Nat.reduceEqDiff, Nat.reduceLT, Nat.reduceLeDiff, tup3, B, I, decide_true, decide_false, Bool.not_true, Bool.not_false, eq_self, and_self, Nat.zero_add, Int.toNat_natCast, TY, Go.Proofs.Try.results51]))
  · refine (B_eq ?_ : _)
    symm; exact decide_eq_false fun h => by have := (Curve.fine h).m6; omega
  · refine callVC (c27 c) (by (simp -dsimp only [↓RP, RQ0, RQ1, RQ2, RQ3, implies_true, forall_const, Nat.reduceMul, reduceIte, reduceCtorEq, Nat.reduceAdd, Nat.reduceEqDiff, Nat.reduceLT, Nat.reduceLeDiff, Curve.sv, ints, I, B]); all_goals simp) (by (simp -dsimp only [↓RP, RQ0, RQ1, RQ2, RQ3, implies_true, forall_const, Nat.reduceMul, reduceIte, reduceCtorEq, Nat.reduceAdd, Nat.reduceEqDiff, Nat.reduceLT, Nat.reduceLeDiff, I])) ?_
    (repeat' (first | with_reducible refine splitVC_d (fun _ => ?_) (fun _ => ?_) | ((with_reducible refine And.intro ?_ ?_); focus (first | trivial | (simp only [InK]; omega) | omega | (simp only [InK, ne_eq, and_true, true_and]; omega))) | simp -dsimp only [↓RP, RQ0, RQ1, RQ2, RQ3, implies_true, forall_const, Nat.reduceMul, reduceIte, reduceCtorEq, Nat.reduceAdd, Nat.reduceEqDiff, Nat.reduceLT, Nat.reduceLeDiff, tup3, B, I, decide_true, decide_false, Bool.not_true, Bool.not_false, eq_self, and_self, Nat.zero_add, Int.toNat_natCast, TY, Go.Proofs.Try.results51]))
theorem ask_wide {c : Curve} {n : Nat} {C : Nat → Curve} (h : askE c n C = 0) : ¬ wideP n C := by
  have ha := ask_ok h
  have h3 := ha.n3
  rintro (h1 | ⟨i, h1, h2⟩)
  · omega
  · have := (ha.fines i h1).m6; omega
theorem c46 (c : Curve) (n : Nat) (C : Nat → Curve) : Contract Go.Proofs.Try.prog 46 [c.sv, chn n C] (B (decide (askE c n C = 0))) := by
  refine contract_of Go.Proofs.Try.func46 rfl (by kernel_rfl) follows (by kernel_rfl) _ _ (by rw [Go.Proofs.Try.ntmps46]; simp) (by simp only [OldL, c.old, chn_old, and_self, and_true, true_and]) ?_
  conv => arg 4; unfold chn Curve.sv ints
  (repeat' (first | with_reducible refine splitVC_d (fun _ => ?_) (fun _ => ?_) | ((with_reducible refine And.intro ?_ ?_); focus (first | trivial | (simp only [InK]; omega) | omega | (simp only [InK, ne_eq, and_true, true_and]; omega))) | simp -dsimp only [↓RP, RQ0, RQ1, RQ2, RQ3, implies_true, forall_const, Nat.reduceMul, reduceIte, reduceCtorEq, Nat.reduceAdd, Nat.reduceEqDiff, Nat.reduceLT, Nat.reduceLeDiff, tup3, B, I, decide_true, decide_false, Bool.not_true, Bool.not_false, eq_self, and_self, Nat.zero_add, Int.toNat_natCast, TY, Go.Proofs.Try.results46]))
  refine callVC (c51 c) (by (simp -dsimp only [↓RP, RQ0, RQ1, RQ2, RQ3, implies_true, forall_const, Nat.reduceMul, reduceIte, reduceCtorEq, Nat.reduceAdd, Nat.reduceEqDiff, Nat.reduceLT, Nat.reduceLeDiff, Curve.sv, ints, I, B]); all_goals simp) (by (simp -dsimp only [↓RP, RQ0, RQ1, RQ2, RQ3, implies_true, forall_const, Nat.reduceMul, reduceIte, reduceCtorEq, Nat.reduceAdd, Nat.reduceEqDiff, Nat.reduceLT, Nat.reduceLeDiff, B])) ?_
  (repeat' (first | with_reducible refine splitVC_d (fun _ => ?_) (fun _ => ?_) | ((with_reducible refine And.intro ?_ ?_); focus (first | trivial | (simp only [InK]; omega) | omega | (simp only [InK, ne_eq, and_true, true_and]; omega))) | simp -dsimp only [↓RP, RQ0, RQ1, RQ2, RQ3, implies_true, forall_const, Nat.reduceMul, reduceIte, reduceCtorEq, Nat.reduceAdd, Nat.reduceEqDiff, Nat.reduceLT, Nat.reduceLeDiff, tup3, B, I, decide_true, decide_false, Bool.not_true, Bool.not_false, eq_self, and_self, Nat.zero_add, Int.toNat_natCast, TY, Go.Proofs.Try.results46]))
  rotate_left
  · rename_i h1
    refine (B_eq ?_ : _)
    symm; exact decide_eq_false fun h => h1 (Curve.err_fine (ask_ok h).fine)
  refine callVC (c18 n C) (by (simp -dsimp only [↓RP, RQ0, RQ1, RQ2, RQ3, implies_true, forall_const, Nat.reduceMul, reduceIte, reduceCtorEq, Nat.reduceAdd, Nat.reduceEqDiff, Nat.reduceLT, Nat.reduceLeDiff, chn, ints, I, B]); all_goals (try simp); all_goals exact fun _ _ => rfl) (by (simp -dsimp only [↓RP, RQ0, RQ1, RQ2, RQ3, implies_true, forall_const, Nat.reduceMul, reduceIte, reduceCtorEq, Nat.reduceAdd, Nat.reduceEqDiff, Nat.reduceLT, Nat.reduceLeDiff, B])) ?_
  (repeat' (first | with_reducible refine splitVC_d (fun _ => ?_) (fun _ => ?_) | ((with_reducible refine And.intro ?_ ?_); focus (first | trivial | (simp only [InK]; omega) | omega | (simp only [InK, ne_eq, and_true, true_and]; omega))) | simp -dsimp only [↓RP, RQ0, RQ1, RQ2, RQ3, implies_true, forall_const, Nat.reduceMul, reduceIte, reduceCtorEq, Nat.reduceAdd, Nat.reduceEqDiff, Nat.reduceLT, Nat.reduceLeDiff, tup3, B, I, decide_true, decide_false, Bool.not_true, Bool.not_false, eq_self, and_self, Nat.zero_add, Int.toNat_natCast, TY, Go.Proofs.Try.results46]))
  · rename_i h1 h2
    refine (B_eq ?_ : _)
    symm; exact decide_eq_false fun h => ask_wide h h2
  · refine callVC (c59 c n C) (by (simp -dsimp only [↓RP, RQ0, RQ1, RQ2, RQ3, implies_true, forall_const, Nat.reduceMul, reduceIte, reduceCtorEq, Nat.reduceAdd, Nat.reduceEqDiff, Nat.reduceLT, Nat.reduceLeDiff, chn, Curve.sv, ints, I, B]); all_goals (try simp); all_goals exact fun _ _ => rfl) (by (simp -dsimp only [↓RP, RQ0, RQ1, RQ2, RQ3, implies_true, forall_const, Nat.reduceMul, reduceIte, reduceCtorEq, Nat.reduceAdd, Nat.reduceEqDiff, Nat.reduceLT, Nat.reduceLeDiff, I])) ?_
    (repeat' (first | with_reducible refine splitVC_d (fun _ => ?_) (fun _ => ?_) | ((with_reducible refine And.intro ?_ ?_); focus (first | trivial | (simp only [InK]; omega) | omega | (simp only [InK, ne_eq, and_true, true_and]; omega))) | simp -dsimp only [↓RP, RQ0, RQ1, RQ2, RQ3, implies_true, forall_const, Nat.reduceMul, reduceIte, reduceCtorEq, Nat.reduceAdd, Nat.reduceEqDiff, Nat.reduceLT, Nat.reduceLeDiff, tup3, B, I, decide_true, decide_false, Bool.not_true, Bool.not_false, eq_self, and_self, Nat.zero_add, Int.toNat_natCast, TY, Go.Proofs.Try.results46]))
theorem c53 (m : Nat) (u : Nat → Int) (hm : m ≤ 1000) (hu : ∀ i, i < m → 0 ≤ u i ∧ u i ≤ 1000000) : Contract Go.Proofs.Try.prog 53 [ints m u] (I (sumTo u m)) := by
  refine contract_of Go.Proofs.Try.func53 rfl (by kernel_rfl) follows (by kernel_rfl) _ _ (by rw [Go.Proofs.Try.ntmps53]; simp) (by simp only [OldL, Old, ints]; simp) ?_
  conv => arg 4; unfold ints
  (repeat' (first | with_reducible refine splitVC_d (fun _ => ?_) (fun _ => ?_) | ((with_reducible refine And.intro ?_ ?_); focus (first | trivial | (simp only [InK]; omega) | omega | (simp only [InK, ne_eq, and_true, true_and]; omega))) | simp -dsimp only [↓RP, RQ0, RQ1, RQ2, RQ3, implies_true, forall_const, Nat.reduceMul, reduceIte, reduceCtorEq, Nat.reduceAdd, Nat.reduceEqDiff, Nat.reduceLT, Nat.reduceLeDiff, tup3, B, I, decide_true, decide_false, Bool.not_true, Bool.not_false, eq_self, and_self, Nat.zero_add, Int.toNat_natCast, TY, Go.Proofs.Try.results53]))
  refine callN (c52 ⟨m, u⟩ (by show m ≤ _; omega) (fun i hi => by have := hu i hi; show 0 ≤ u i ∧ u i ≤ _; omega)) (by (simp -dsimp only [↓RP, RQ0, RQ1, RQ2, RQ3, implies_true, forall_const, Nat.reduceMul, reduceIte, reduceCtorEq, Nat.reduceAdd, Nat.reduceEqDiff, Nat.reduceLT, Nat.reduceLeDiff, Curve.sv, ints, I, B]); all_goals simp) (by (simp -dsimp only [↓RP, RQ0, RQ1, RQ2, RQ3, implies_true, forall_const, Nat.reduceMul, reduceIte, reduceCtorEq, Nat.reduceAdd, Nat.reduceEqDiff, Nat.reduceLT, Nat.reduceLeDiff, I]); all_goals simp) (by (simp -dsimp only [↓RP, RQ0, RQ1, RQ2, RQ3, implies_true, forall_const, Nat.reduceMul, reduceIte, reduceCtorEq, Nat.reduceAdd, Nat.reduceEqDiff, Nat.reduceLT, Nat.reduceLeDiff, I]); all_goals simp) ?_
  (repeat' (first | with_reducible refine splitVC_d (fun _ => ?_) (fun _ => ?_) | ((with_reducible refine And.intro ?_ ?_); focus (first | trivial | (simp only [InK]; omega) | omega | (simp only [InK, ne_eq, and_true, true_and]; omega))) | simp -dsimp only [↓RP, RQ0, RQ1, RQ2, RQ3, implies_true, forall_const, Nat.reduceMul, reduceIte, reduceCtorEq, Nat.reduceAdd, Nat.reduceEqDiff, Nat.reduceLT, Nat.reduceLeDiff, tup3, B, I, decide_true, decide_false, Bool.not_true, Bool.not_false, eq_self, and_self, Nat.zero_add, Int.toNat_natCast, TY, Go.Proofs.Try.results53]))
  refine I_eq ?_
  rw [show ((m + 1 : Nat) : Int) - 1 = (m : Int) by omega, Int.toNat_natCast]
end Go.Lg
end
section
set_option linter.unusedSimpArgs false
set_option linter.unusedVariables false
set_option linter.defProp false
set_option maxRecDepth 100000
set_option maxHeartbeats 16000000
namespace Go.Lg
open Go.Sx
abbrev Wk19 : Prop := Contract Go.Proofs.Try.prog 19 [] (B true)
theorem m20 (c : Curve) (hc : c.Fine) (k : Nat) (hk : k ≤ 200) : Contract Go.Proofs.Try.prog 20 [c.sv, I k] (.tup [I (c.M k), I 0]) := by
  have h := c20 c (by have := hc.m6; omega) k
  have e : mostV c k = (c.M k, 0) := by
    unfold mostV; rw [if_pos (Curve.err_fine hc), if_pos (by omega), Int.toNat_natCast]
  rwa [e] at h
theorem tm100 (a : Nat) : (a : Int).tmod 100 = ((a % 100 : Nat) : Int) := rfl
def ownR (c : Curve) (n : Nat) : Curve := ⟨n, fun j => c.M (j + 1) - c.M j⟩
def keepR (c : Curve) (n : Nat) (b : Nat → Int) : Curve := ⟨n, K c.M b⟩
theorem ownR_S (c : Curve) (n : Nat) : (ownR c n).S = c.M := by
  funext t
  show sumTo (fun j => c.M (j + 1) - c.M j) t = _
  rw [sum_tel, M_zero]; omega
theorem keepR_S (c : Curve) (n : Nat) (b : Nat → Int) : (keepR c n b).S = KS c.M b := by
  funext t
  exact KS_sum c.M b t
theorem ownR_row (c : Curve) (hc : c.Fine) (n : Nat) (hn : n ≤ 60) : Row (ownR c n) := by
  refine ⟨hn, fun i hi => ?_⟩
  have h1 := M_mono1 hc i
  have h2 := M_sub hc i 1
  have h3 := M_bound hc 1
  exact ⟨by show 0 ≤ c.M (i + 1) - c.M i; omega, by show c.M (i + 1) - c.M i ≤ 10000; omega⟩
theorem keepR_row (c : Curve) (hc : c.Fine) (n : Nat) (hn : n ≤ 60) (b : Nat → Int) (hb : ∀ i, i < n → 0 ≤ b i ∧ b i ≤ 255) : Row (keepR c n b) := by
  refine ⟨hn, fun i hi => ?_⟩
  have h := K_rg hc b i (hb i hi)
  exact ⟨h.1, Int.le_trans h.2 (by omega)⟩
theorem own_none (c : Curve) (hc : c.Fine) (n : Nat) (hn : n ≤ 60) : breakV c (ownR c n) = (0, 0, 5) :=
  break_none hc (ownR_row c hc n hn) fun s k h1 h2 => by rw [ownR_S]; have := M_sub hc s k; omega
theorem keep_none (c : Curve) (hc : c.Fine) (n : Nat) (hn : n ≤ 60) (b : Nat → Int) (hb : ∀ i, i < n → 0 ≤ b i ∧ b i ≤ 255) : breakV c (keepR c n b) = (0, 0, 5) :=
  break_none hc (keepR_row c hc n hn b hb) fun s k h1 h2 => by
    rw [keepR_S]
    have := KS_keeps c.M b (M_bound hc 0).1 (s + k) s (by omega)
    rw [Nat.add_sub_cancel_left] at this
    exact this
theorem m29 (c a : Curve) (hc : c.Fine) (ha : Row a) (h : breakV c a = (0, 0, 5)) : Contract Go.Proofs.Try.prog 29 [c.sv, a.sv] (.tup [I 0, I 0, I 5]) := by
  have := c29 c a (by have := hc.m6; omega) (by have := ha.m60; omega)
  rw [h] at this
  exact this
theorem m52 (a : Curve) (ha : Row a) : ContractN Go.Proofs.Try.prog 52 [a.sv] (.rows 2 1 (a.m + 1) (fun j _ => I (a.S j))) (.vec 0 (a.m + 1) 1) :=
  c52 a (by have := ha.m60; omega) (fun i hi => by have := ha.rg i hi; omega)
end Go.Lg
end
