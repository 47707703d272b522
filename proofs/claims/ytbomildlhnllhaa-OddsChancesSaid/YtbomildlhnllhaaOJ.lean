/- A part of the proof. -/
import Derived.Test.YtbomildlhnllhaaOI
section
set_option linter.unusedVariables false
set_option linter.unusedSimpArgs false
namespace Go.Od
open Go.Proofs
theorem rv_xq {q : Qt} (h : (0 ≤ q.n ∧ q.n ≤ 190) ∧ 1 ≤ q.d ∧ q.d ≤ 10) : rv (xq q) * ((q.d + q.n : Int) : Rat) = ((q.d : Int) : Rat) := by
 have hp : (0 : Int) < (⟨q.d, q.d + q.n⟩ : Fr).d := by show 0 < q.d + q.n; omega
 unfold xq
 rw [rv_red hp]
 exact rv_eq hp
theorem loS_ge {q : Nat → Qt} {r : Int} : ∀ {m : Nat}, okO q m → ∀ i, i < m → (q i).r = r → (q i).l = true → rv (xq (q i)) ≤ rv (loS q r m)
 | 0, _, i, h, _, _ => by omega
 | m + 1, hq, i, h, h1, h2 => by
  have cl := loS_ch (q := q) (r := r) (m := m) fun j hj => hq j (by omega)
  have cx := (xq_ch (hq m (by omega))).1
  have e := rv_lt cl.d1 cx.d1
  simp only [loS]
  by_cases hi : i = m
  ·subst hi
   split
   ·exact Rat.le_refl
   ·rename_i hn
    have : ¬ lt (loS q r i) (xq (q i)) := fun x => hn ⟨h1, h2, x⟩
    rw [e] at this
    grind
  ·have ih := loS_ge (q := q) (r := r) (m := m) (fun j hj => hq j (by omega)) i (by omega) h1 h2
   split
   ·rename_i hn
    have := e.1 hn.2.2
    grind
   ·exact ih
theorem hiS_le {q : Nat → Qt} {r : Int} : ∀ {m : Nat}, okO q m → ∀ i, i < m → (q i).r = r → (q i).l = false → rv (hiS q r m) ≤ rv (xq (q i))
 | 0, _, i, h, _, _ => by omega
 | m + 1, hq, i, h, h1, h2 => by
  have ch := hiS_ch (q := q) (r := r) (m := m) fun j hj => hq j (by omega)
  have cx := (xq_ch (hq m (by omega))).1
  have e := rv_lt cx.d1 ch.d1
  simp only [hiS]
  by_cases hi : i = m
  ·subst hi
   split
   ·exact Rat.le_refl
   ·rename_i hn
    have : ¬ lt (xq (q i)) (hiS q r i) := fun x => hn ⟨h1, h2, x⟩
    rw [e] at this
    grind
  ·have ih := hiS_le (q := q) (r := r) (m := m) (fun j hj => hq j (by omega)) i (by omega) h1 h2
   split
   ·rename_i hn
    have := e.1 hn.2.2
    grind
   ·exact ih
theorem chI_rv {f : Nat → Fr} {A i : Nat} (hd : 0 < (f i).d) (h : (f i).d.toNat ∣ A) : ((chI f A i : Int) : Rat) = (A : Rat) * rv (f i) := by
 obtain ⟨k, hk⟩ := h
 have e1 : (A : Int) = (f i).d * k := by rw [hk, Int.natCast_mul, Int.toNat_of_nonneg (by omega)]
 have e2 : chI f A i = k * (f i).n := by
  unfold chI
  rw [e1, Int.mul_tdiv_cancel_left _ (by omega)]
 have e3 : (A : Rat) = ((f i).d : Rat) * (k : Rat) := by exact_mod_cast e1
 have e4 := rv_eq hd
 rw [e2, Rat.intCast_mul, e3]
 show ((k : Int) : Rat) * ((f i).n : Rat) = _
 rw [← e4, Rat.intCast_natCast]
 grind
theorem sum_chI {f : Nat → Fr} {A : Nat} : ∀ {n : Nat}, (∀ j, j < n → 0 < (f j).d ∧ (f j).d.toNat ∣ A) → ((sumTo (chI f A) n : Int) : Rat) = (A : Rat) * gsum (fun j => rv (f j)) n
 | 0, _ => by simp only [sumTo, gsum]; grind
 | n + 1, h => by
  simp only [sumTo, gsum]
  rw [Rat.intCast_add, sum_chI (n := n) fun j hj => h j (by omega), chI_rv (h n (by omega)).1 (h n (by omega)).2]
  grind
theorem fair_ok {M : Mk} (he : M.err = 0) (hF : FairR M.lo M.hi M.run.toNat) {r : Nat} (hS : Stop M.lo M.hi M.run.toNat r) : M.chE M.run.toNat (chI (ownF M.lo M.hi M.run.toNat r) (aD (ownF M.lo M.hi M.run.toNat r) M.run.toNat)) = 0 := by
 have hf := Mk.fine he
 have hr1 := hf.r1
 have oi := hF.own_in hS
 obtain ⟨ob, os⟩ := hF.own hS
 have ⟨a1, a2⟩ := hF.all hS (Nat.le_refl _)
 have hdv : ∀ j, j < M.run.toNat → 0 < (ownF M.lo M.hi M.run.toNat r j).d ∧ (ownF M.lo M.hi M.run.toNat r j).d.toNat ∣ aD (ownF M.lo M.hi M.run.toNat r) M.run.toNat := fun j hj => ⟨(oi j hj).2.2.1, dvd_aD hj⟩
 generalize aD (ownF M.lo M.hi M.run.toNat r) M.run.toNat = A at *
 generalize ownF M.lo M.hi M.run.toNat r = f at *
 have hs : sumTo (chI f A) M.run.toNat = A := by
  have := sum_chI hdv
  rw [os] at this
  have h2 : ((sumTo (chI f A) M.run.toNat : Int) : Rat) = ((A : Int) : Rat) := by rw [this, Rat.intCast_natCast]; grind
  exact_mod_cast h2
 have hall : allS (chI f A) M.run.toNat := by
  intro i hi
  have ⟨b1, b2, b3, _, _⟩ := oi i hi
  obtain ⟨_, k, hk⟩ := hdv i hi
  have e1 : (A : Int) = (f i).d * k := by rw [hk, Int.natCast_mul, Int.toNat_of_nonneg (by omega)]
  have e2 : chI f A i = k * (f i).n := by
   unfold chI
   rw [e1, Int.mul_tdiv_cancel_left _ (by omega)]
  have p1 : 0 ≤ (k : Int) * (f i).n := Int.mul_nonneg (by omega) b1
  have p2 : (k : Int) * (f i).n ≤ k * (f i).d := Int.mul_le_mul_of_nonneg_left b2 (by omega)
  have p3 : (k : Int) * (f i).d = A := by rw [e1, Int.mul_comm]
  rw [e2]
  omega
 symm
 unfold Mk.chE
 rw [if_pos he, if_pos (by omega), if_pos ⟨hall, by rw [hs]; omega⟩, if_pos]
 intro i hi
 have hq := hf.od i hi
 have hr := hf.st i hi
 have hx := rv_xq hq
 have hrn : (q : Nat) → (q : Int) = (M.q i).r → q < M.run.toNat := fun q e => by omega
 obtain ⟨t, ht⟩ : ∃ t : Nat, (M.q i).r = t := ⟨(M.q i).r.toNat, by omega⟩
 have ht2 := hrn t ht.symm
 have ⟨c1, c2⟩ := hdv t ht2
 have ec := chI_rv c1 c2
 have ⟨_, d2, d3⟩ := ob t ht2
 have hK : (0 : Rat) ≤ (A : Rat) * ((((M.q i).d + (M.q i).n : Int)) : Rat) := by
  have : (0 : Int) ≤ (A : Int) * ((M.q i).d + (M.q i).n) := Int.mul_nonneg (by omega) (by omega)
  have h2 : ((0 : Int) : Rat) ≤ (((A : Int) * ((M.q i).d + (M.q i).n) : Int) : Rat) := Rat.intCast_le_intCast.2 this
  rw [Rat.intCast_mul, Rat.intCast_natCast] at h2
  exact h2
 unfold fairQ
 rw [hs, ht, Int.toNat_natCast]
 split
 ·rename_i hl
  have h1 := loS_ge hf.od i hi ht hl
  have h2 : rv (xq (M.q i)) ≤ rv (f t) := Rat.le_trans h1 d2
  have h3 := Rat.mul_le_mul_of_nonneg_left h2 hK
  rw [← Rat.intCast_le_intCast, Rat.intCast_mul, Rat.intCast_mul, ec, ← hx, Rat.intCast_natCast]
  grind
 ·rename_i hl
  have h1 := hiS_le hf.od i hi ht (by simpa using hl)
  have h2 : rv (f t) ≤ rv (xq (M.q i)) := Rat.le_trans d3 h1
  have h3 := Rat.mul_le_mul_of_nonneg_left h2 hK
  rw [← Rat.intCast_le_intCast, Rat.intCast_mul, Rat.intCast_mul, ec, ← hx, Rat.intCast_natCast]
  grind
end Go.Od
end
section
set_option linter.unusedVariables false
set_option linter.unusedSimpArgs false
namespace Go.Od
open Go.Proofs
theorem by_lay {q : Nat → Qt} {r : Int} {n : Nat} : ∀ {i : Nat}, byS q r true i = some n → n < i ∧ (q n).r = r ∧ (q n).l = true ∧ loS q r i = xq (q n)
 | 0, h => by cases h
 | i + 1, h => by
  simp only [byS] at h
  split at h
  ·rename_i hb
   cases h
   obtain ⟨b1, b2, b3⟩ := hb
   unfold better at b3
   rw [if_pos b2, b1] at b3
   refine ⟨by omega, b1, b2, ?_⟩
   simp only [loS]
   rw [if_pos ⟨b1, b2, b3⟩]
  ·rename_i hb
   have ⟨a1, a2, a3, a4⟩ := by_lay h
   refine ⟨by omega, a2, a3, ?_⟩
   simp only [loS]
   rw [if_neg, a4]
   rintro ⟨c1, c2, c3⟩
   refine hb ⟨c1, c2, ?_⟩
   unfold better
   rw [if_pos c2, c1]; exact c3
theorem by_back {q : Nat → Qt} {r : Int} {n : Nat} : ∀ {i : Nat}, byS q r false i = some n → n < i ∧ (q n).r = r ∧ (q n).l = false ∧ hiS q r i = xq (q n)
 | 0, h => by cases h
 | i + 1, h => by
  simp only [byS] at h
  split at h
  ·rename_i hb
   cases h
   obtain ⟨b1, b2, b3⟩ := hb
   unfold better at b3
   rw [if_neg (by rw [b2]; decide), b1] at b3
   refine ⟨by omega, b1, b2, ?_⟩
   simp only [hiS]
   rw [if_pos ⟨b1, b2, b3⟩]
  ·rename_i hb
   have ⟨a1, a2, a3, a4⟩ := by_back h
   refine ⟨by omega, a2, a3, ?_⟩
   simp only [hiS]
   rw [if_neg, a4]
   rintro ⟨c1, c2, c3⟩
   refine hb ⟨c1, c2, ?_⟩
   unfold better
   rw [if_neg (by rw [c2]; decide), c1]; exact c3
def ind (p : Prop) [Decidable p] : Rat := if p then 1 else 0
def payR (q : Qt) (w : Int) : Rat := if q.l = true then rv (xq q) - ind (q.r = w) else ind (q.r = w) - rv (xq q)
theorem div2520 {d : Int} (h1 : 1 ≤ d) (h2 : d ≤ 10) : (2520 : Int).tdiv d * d = 2520 := by
 have : d = 1 ∨ d = 2 ∨ d = 3 ∨ d = 4 ∨ d = 5 ∨ d = 6 ∨ d = 7 ∨ d = 8 ∨ d = 9 ∨ d = 10 := by omega
 rcases this with rfl | rfl | rfl | rfl | rfl | rfl | rfl | rfl | rfl | rfl <;> decide
theorem won_rv {q : Qt} (h : (0 ≤ q.n ∧ q.n ≤ 190) ∧ 1 ≤ q.d ∧ q.d ≤ 10) {A : Nat} (hA : (q.d + q.n).toNat ∣ A) (w : Int) : ((wonV q ((A : Int).tdiv (q.d + q.n) * q.d) w : Int) : Rat) = 2520 * (A : Rat) * payR q w := by
 obtain ⟨k, hk⟩ := hA
 have e1 : (A : Int) = (q.d + q.n) * k := by rw [hk, Int.natCast_mul, Int.toNat_of_nonneg (by omega)]
 have hx := rv_xq h
 have e3 : (A : Rat) = ((q.d + q.n : Int) : Rat) * (k : Rat) := by exact_mod_cast e1
 have e4 : (A : Rat) * rv (xq q) = (k : Rat) * ((q.d : Int) : Rat) := by rw [e3, ← hx]; grind
 have e5 : (A : Rat) = (k : Rat) * ((q.d : Int) : Rat) + (k : Rat) * ((q.n : Int) : Rat) := by rw [e3, Rat.intCast_add]; grind
 rw [e1, Int.mul_tdiv_cancel_left _ (by omega)]
 have hd := div2520 h.2.1 h.2.2
 have eX : ((wonX q (k * q.d) w : Int) : Rat) = 2520 * (A : Rat) * (ind (q.r = w) - rv (xq q)) := by
  unfold wonX ind
  by_cases e : q.r = w
  ·rw [if_pos e, if_pos e]
   have : (2520 : Int).tdiv q.d * q.n * (k * q.d) = 2520 * (k * q.n) := by
    have : (2520 : Int).tdiv q.d * q.n * (k * q.d) = (2520 : Int).tdiv q.d * q.d * (k * q.n) := by grind
    rw [this, hd]
   rw [this, Rat.intCast_mul, Rat.intCast_mul]
   have : ((2520 : Int) : Rat) = 2520 := rfl
   rw [this, Rat.intCast_natCast]
   grind
  ·rw [if_neg e, if_neg e, Rat.intCast_mul, Rat.intCast_mul]
   have : ((-2520 : Int) : Rat) = -2520 := rfl
   rw [this, Rat.intCast_natCast]
   grind
 unfold wonV payR
 by_cases hl : q.l = true
 ·rw [if_pos hl, if_pos hl, Rat.intCast_neg, eX]; grind
 ·rw [if_neg hl, if_neg hl, eX]
theorem wonV_0 (q : Qt) (w : Int) : wonV q 0 w = 0 := by unfold wonV wonX; simp
theorem netT_upd {q : Nat → Qt} {s s' : Nat → Int} {w : Int} {n : Nat} (e : ∀ j, j ≠ n → s' j = s j) : ∀ {m : Nat}, n < m → netT q s' w m = netT q s w m - wonV (q n) (s n) w + wonV (q n) (s' n) w
 | 0, h => by omega
 | m + 1, h => by
  simp only [netT]
  by_cases e1 : n = m
  ·subst e1
   have : netT q s' w n = netT q s w n := by
    have : ∀ k, k ≤ n → netT q s' w k = netT q s w k := by
     intro k
     induction k with
     | zero => intro _; rfl
     | succ k ih => intro hk; simp only [netT]; rw [ih (by omega), e k (by omega)]
    exact this n (Nat.le_refl n)
   rw [this]; omega
  ·rw [netT_upd e (m := m) (by omega), e m (by omega)]; omega
theorem netT_0 {q : Nat → Qt} {s : Nat → Int} {w : Int} (h : ∀ i, s i = 0) : ∀ {m : Nat}, netT q s w m = 0
 | 0 => rfl
 | m + 1 => by simp only [netT]; rw [netT_0 h, h, wonV_0]; rfl
def lsum (g : Nat → Rat) : List Nat → Rat
 | [] => 0
 | a :: l => g a + lsum g l
theorem lsum_app (g : Nat → Rat) (l m : List Nat) : lsum g (l ++ m) = lsum g l + lsum g m := by
 induction l with
 | nil => simp only [lsum, List.nil_append]; grind
 | cons a l ih => simp only [lsum, List.cons_append, ih]; grind
theorem stR_app {q : Nat → Qt} {l : List Nat} {n A : Nat} : ∀ {k : Nat}, k ≤ l.length → ∀ i, stR q (l ++ [n]) A k i = stR q l A k i
 | 0, _, _ => rfl
 | k + 1, h, i => by
  simp only [stR]
  rw [getD_snoc_lt (by omega), stR_app (k := k) (by omega)]
structure Good (q : Nat → Qt) (A m : Nat) (w : Int) (l : List Nat) : Prop where
 net : ((netT q (stR q l A l.length) w m : Int) : Rat) = 2520 * (A : Rat) * lsum (fun n => payR (q n) w) l
 zero : ∀ i, i ∉ l → stR q l A l.length i = 0
theorem Good.nil (q : Nat → Qt) (A m : Nat) (w : Int) : Good q A m w [] := by
 refine ⟨?_, fun i _ => rfl⟩
 rw [netT_0 (s := stR q [] A ([] : List Nat).length) (fun i => rfl)]
 simp only [lsum]
 grind
theorem Good.snoc {q : Nat → Qt} {A m : Nat} {w : Int} {l : List Nat} {n : Nat} (h : Good q A m w l) (hq : okO q m) (hn : n < m) (hnl : n ∉ l) (hA : sz q n ∣ A) : Good q A m w (l ++ [n]) := by
 have e0 : (l ++ [n]).length = l.length + 1 := by simp
 have es : ∀ i, stR q (l ++ [n]) A (l ++ [n]).length i = if i = n then (A : Int).tdiv ((q i).d + (q i).n) * (q i).d else stR q l A l.length i := fun i => by
  rw [e0]
  simp only [stR]
  rw [getD_snoc_eq, stR_app (Nat.le_refl _)]
 refine ⟨?_, fun i hi => ?_⟩
 ·rw [netT_upd (s := stR q l A l.length) (n := n) (fun j hj => by rw [es, if_neg hj]) hn, h.zero n hnl, wonV_0, es, if_pos rfl, Rat.intCast_add, Rat.intCast_sub, h.net, won_rv (hq n hn) hA, lsum_app]
  simp only [lsum]
  grind
 ·rw [es, if_neg (fun e => hi (by rw [e]; simp)), h.zero i (fun e => hi (by simp [e]))]
theorem dvd_aL {q : Nat → Qt} {l : List Nat} : ∀ {k j : Nat}, j < k → sz q (l.getD j 0) ∣ aL q l k
 | 0, _, h => by omega
 | k + 1, j, h => by
  simp only [aL]
  by_cases e : j = k
  ·subst e; exact Nat.dvd_lcm_right _ _
  ·exact Nat.dvd_trans (dvd_aL (k := k) (j := j) (by omega)) (Nat.dvd_lcm_left _ _)
theorem dvd_mem {q : Nat → Qt} {l : List Nat} {n : Nat} (h : n ∈ l) : sz q n ∣ aL q l l.length := by
 obtain ⟨j, hj, e⟩ := List.getElem_of_mem h
 have := dvd_aL (q := q) (l := l) hj
 rwa [List.getD_eq_getElem?_getD, List.getElem?_eq_getElem hj, Option.getD_some, e] at this
theorem pk_mem {M : Mk} {lay : Bool} : ∀ {r n : Nat}, n ∈ pk M lay r → ∃ k : Nat, k < r ∧ byS M.q k lay M.m = some n
 | 0, n, h => by cases h
 | r + 1, n, h => by
  cases hb : byS M.q r lay M.m with
  | none => rw [pk_none hb] at h; obtain ⟨k, h1, h2⟩ := pk_mem h; exact ⟨k, by omega, h2⟩
  | some x =>
   rw [pk_some hb, List.mem_append, List.mem_singleton] at h
   rcases h with h | rfl
   ·obtain ⟨k, h1, h2⟩ := pk_mem h; exact ⟨k, by omega, h2⟩
   ·exact ⟨r, by omega, hb⟩
theorem by_r {M : Mk} {lay : Bool} {k n : Nat} (h : byS M.q k lay M.m = some n) : n < M.m ∧ (M.q n).r = k ∧ (M.q n).l = lay := by
 cases lay
 ·exact ⟨(by_back h).1, (by_back h).2.1, (by_back h).2.2.1⟩
 ·exact ⟨(by_lay h).1, (by_lay h).2.1, (by_lay h).2.2.1⟩
theorem good_pk {M : Mk} (hf : M.Fine) {lay : Bool} {A : Nat} (w : Int) : ∀ {r : Nat}, (∀ n, n ∈ pk M lay r → sz M.q n ∣ A) → Good M.q A M.m w (pk M lay r)
 | 0, _ => Good.nil _ _ _ _
 | r + 1, h => by
  cases hb : byS M.q r lay M.m with
  | none => rw [pk_none hb] at h ⊢; exact good_pk hf w h
  | some x =>
   rw [pk_some hb] at h ⊢
   have ⟨x1, x2, x3⟩ := by_r hb
   refine (good_pk hf w fun n hn => h n (by simp [hn])).snoc hf.od x1 (fun hm => ?_) (h x (by simp))
   obtain ⟨k, k1, k2⟩ := pk_mem hm
   have := (by_r k2).2.1
   omega
theorem ind_gsum {w : Nat} : ∀ {n : Nat}, gsum (fun k => ind ((k : Int) = (w : Int))) n = if w < n then 1 else 0
 | 0 => by rw [if_neg (by omega)]; rfl
 | n + 1 => by
  simp only [gsum]
  rw [ind_gsum (n := n)]
  unfold ind
  by_cases e : w = n
  ·subst e; rw [if_neg (by omega), if_pos rfl, if_pos (by omega)]; grind
  ·by_cases e2 : w < n
   ·rw [if_pos e2, if_neg (by omega), if_pos (by omega)]; grind
   ·rw [if_neg e2, if_neg (by omega), if_neg (by omega)]; grind
theorem gsum_sub {g h : Nat → Rat} : ∀ {n : Nat}, gsum (fun k => g k - h k) n = gsum g n - gsum h n
 | 0 => by simp only [gsum]; grind
 | n + 1 => by simp only [gsum]; rw [gsum_sub (n := n)]; grind
theorem gsum_le {g h : Nat → Rat} : ∀ {n : Nat}, (∀ j, j < n → g j ≤ h j) → gsum g n ≤ gsum h n
 | 0, _ => Rat.le_refl
 | n + 1, e => by
  simp only [gsum]
  have h1 := gsum_le (n := n) fun j hj => e j (by omega)
  have h2 := e n (by omega)
  grind
def payK (M : Mk) (lay : Bool) (w : Int) (k : Nat) : Rat := match byS M.q k lay M.m with | some n => payR (M.q n) w | none => 0
theorem lsum_pk {M : Mk} {lay : Bool} {w : Int} : ∀ {r : Nat}, lsum (fun n => payR (M.q n) w) (pk M lay r) = gsum (payK M lay w) r
 | 0 => rfl
 | r + 1 => by
  simp only [gsum]
  cases hb : byS M.q r lay M.m with
  | none =>
   rw [pk_none hb, lsum_pk (r := r)]
   unfold payK; rw [hb]; simp only []; grind
  | some x =>
   rw [pk_some hb, lsum_app, lsum_pk (r := r)]
   have : payK M lay w r = payR (M.q x) w := by unfold payK; rw [hb]
   rw [this]
   simp only [lsum]; grind
theorem ind_le (p : Prop) [Decidable p] : 0 ≤ ind p ∧ ind p ≤ 1 := by
 unfold ind; split <;> grind
theorem payK_lay {M : Mk} (w : Int) (k : Nat) : rv (M.lo k) - ind ((k : Int) = w) ≤ payK M true w k := by
 have hi := ind_le ((k : Int) = w)
 unfold payK
 cases hb : byS M.q k true M.m with
 | none =>
  have : M.lo k = ⟨0, 1⟩ := by_lo hb
  rw [this, rv0]; grind
 | some n =>
  have ⟨a1, a2, a3, a4⟩ := by_lay hb
  have a4 : M.lo k = xq (M.q n) := a4
  rw [a4]
  simp only []
  unfold payR
  rw [if_pos a3, a2]
  exact Rat.le_refl
theorem payK_back {M : Mk} (w : Int) (k : Nat) (h : rv (M.hi k) < 1) : payK M false w k = ind ((k : Int) = w) - rv (M.hi k) := by
 unfold payK
 cases hb : byS M.q k false M.m with
 | none =>
  have : M.hi k = ⟨1, 1⟩ := by_hi hb
  rw [this, rv1] at h
  grind
 | some n =>
  have ⟨a1, a2, a3, a4⟩ := by_back hb
  have a4 : M.hi k = xq (M.q n) := a4
  rw [a4]
  simp only []
  unfold payR
  rw [if_neg (by rw [a3]; decide), a2]
end Go.Od
end
section
set_option linter.unusedVariables false
set_option linter.unusedSimpArgs false
namespace Go.Od
open Go.Proofs
theorem stR_bd {q : Nat → Qt} {l : List Nat} {A m : Nat} (hq : okO q m) (hl : ∀ n, n ∈ l → n < m) : ∀ {k : Nat}, k ≤ l.length → ∀ i, 0 ≤ stR q l A k i ∧ stR q l A k i ≤ A
 | 0, _, i => by simp only [stR]; omega
 | k + 1, h, i => by
  simp only [stR]
  split
  ·rename_i e
   have hm : l.getD k 0 ∈ l := by
    rw [List.getD_eq_getElem?_getD, List.getElem?_eq_getElem (show k < l.length by omega)]
    exact List.getElem_mem _
   have h1 := hq i (e ▸ hl _ hm)
   have e1 : (q i).d + (q i).n = ((sz q i : Nat) : Int) := by unfold sz; omega
   rw [e1, tdN]
   have h2 : (0 : Int) ≤ ((A / sz q i : Nat) : Int) := Int.natCast_nonneg _
   have h3 : ((A / sz q i : Nat) : Int) * ((sz q i : Nat) : Int) ≤ A := by
    rw [← Int.natCast_mul]; exact Int.ofNat_le.2 (Nat.div_mul_le_self _ _)
   have h4 : ((A / sz q i : Nat) : Int) * (q i).d ≤ ((A / sz q i : Nat) : Int) * ((sz q i : Nat) : Int) := Int.mul_le_mul_of_nonneg_left (by omega) h2
   exact ⟨Int.mul_nonneg h2 (by omega), by omega⟩
  ·exact stR_bd hq hl (k := k) (by omega) i
theorem Good.pos {q : Nat → Qt} {A m : Nat} {w : Int} {l : List Nat} (h : Good q A m w l) (hA : 1 ≤ A) (hp : 0 < lsum (fun n => payR (q n) w) l) : 0 < netT q (stR q l A l.length) w m := by
 have h1 : (0 : Rat) < (A : Rat) := by exact_mod_cast (show 0 < A by omega)
 have h2 : (0 : Rat) < 2520 * (A : Rat) := by grind
 have h3 := Rat.mul_pos h2 hp
 rw [← h.net] at h3
 exact_mod_cast h3
theorem gsum_one_le {g : Nat → Rat} (hg : ∀ j, 0 ≤ g j) : ∀ {n k : Nat}, k < n → g k ≤ gsum g n
 | 0, _, h => by omega
 | n + 1, k, h => by
  simp only [gsum]
  have h0 : ∀ m, 0 ≤ gsum g m := fun m => by
   induction m with
   | zero => exact Rat.le_refl
   | succ m ih => simp only [gsum]; have := hg m; grind
  by_cases e : k = n
  ·subst e; have := h0 k; grind
  ·have := gsum_one_le hg (n := n) (k := k) (by omega); have := hg n; grind
theorem Ch.rv0 {a : Fr} (h : Ch a) : 0 ≤ rv a := by
 have : ¬ lt a ⟨0, 1⟩ := by unfold lt; have := h.n0; show ¬ a.n * 1 < 0 * a.d; omega
 rw [rv_lt h.d1 Int.one_pos, Go.Od.rv0] at this
 grind
theorem sure_pos {M : Mk} (hf : M.Fine) {l : List Nat} (h : sureV M = some l) {w : Nat} (hw : w < M.run.toNat) : 0 < netT M.q (stR M.q l (aL M.q l l.length) l.length) w M.m := by
 have ⟨hl, hl5⟩ := sure_ok hf h
 have ⟨a1, _⟩ := aL_bd hf.od hl l.length (Nat.le_refl _)
 have cl : ∀ r : Nat, Ch (M.lo r) := fun r => loS_ch hf.od
 have ch : ∀ r : Nat, Ch (M.hi r) := fun r => hiS_ch hf.od
 have dv : ∀ n, n ∈ l → sz M.q n ∣ aL M.q l l.length := fun n hn => dvd_mem hn
 generalize aL M.q l l.length = A at *
 have ⟨s1, s2⟩ := rv_sum (f := M.lo) (n := M.run.toNat) fun j _ => (cl j).d1
 have ⟨t1, t2⟩ := rv_sum (f := M.hi) (n := M.run.toNat) fun j _ => (ch j).d1
 unfold sureV at h
 rw [sum_lo, sum_hi] at h
 split at h
 ·rename_i hF
  cases h
  obtain ⟨r0, _, f2, f3, f4⟩ := fstI_ge hF
  have ⟨⟨n1, b1⟩, n2, b2⟩ := cross_by hf f4
  have en1 : byN M (fstI (crossV M) 0 M.run.toNat).toNat false = n1 := by rw [f3, Int.toNat_natCast]; unfold byN; rw [b1]; rfl
  have en2 : byN M (fstI (crossV M) 0 M.run.toNat).toNat true = n2 := by rw [f3, Int.toNat_natCast]; unfold byN; rw [b2]; rfl
  rw [en1, en2] at dv ⊢
  have ⟨c1, c2, c3, c4⟩ := by_back b1
  have ⟨d1, d2, d3, d4⟩ := by_lay b2
  have hne : n2 ∉ [n1] := by
   intro hm
   rw [List.mem_singleton] at hm
   subst hm
   rw [c3] at d3; cases d3
  have g := ((Good.nil M.q A M.m w).snoc hf.od c1 (by simp) (dv n1 (by simp))).snoc hf.od d1 hne (dv n2 (by simp))
  refine g.pos a1 ?_
  have hc : lt (M.hi r0) (M.lo r0) := of_decide_eq_true f4
  have hc := (rv_lt (ch r0).d1 (cl r0).d1).1 hc
  rw [show M.hi r0 = xq (M.q n1) from c4, show M.lo r0 = xq (M.q n2) from d4] at hc
  show 0 < payR (M.q n1) w + (payR (M.q n2) w + 0)
  unfold payR
  rw [if_neg (by rw [c3]; decide), if_pos d3, c2, d2]
  grind
 ·split at h
  ·rename_i h2
   cases h
   refine (good_pk hf w dv).pos a1 ?_
   rw [lsum_pk]
   have h3 := gsum_le (g := fun k => rv (M.lo k) - ind ((k : Int) = (w : Int))) (h := payK M true w) (n := M.run.toNat) fun j _ => payK_lay w j
   rw [gsum_sub (g := fun k => rv (M.lo k)) (h := fun k => ind ((k : Int) = (w : Int))), ind_gsum, if_pos hw, ← s2] at h3
   have := (rv_lt (show (0 : Int) < (⟨1, 1⟩ : Fr).d from Int.one_pos) s1).1 h2
   rw [rv1] at this
   grind
  ·split at h
   ·rename_i h2
    cases h
    refine (good_pk hf w dv).pos a1 ?_
    have hs := (rv_lt t1 (show (0 : Int) < (⟨1, 1⟩ : Fr).d from Int.one_pos)).1 h2
    rw [rv1, t2] at hs
    have h1 : ∀ k, k < M.run.toNat → rv (M.hi k) < 1 := fun k hk => by
     have := gsum_one_le (g := fun k => rv (M.hi k)) (fun j => (ch j).rv0) hk
     grind
    rw [lsum_pk, gsum_congr (g := payK M false w) (h := fun k => ind ((k : Int) = (w : Int)) - rv (M.hi k)) fun j hj => payK_back w j (h1 j hj), gsum_sub (g := fun k => ind ((k : Int) = (w : Int))) (h := fun k => rv (M.hi k)), ind_gsum, if_pos hw]
    grind
   ·cases h
theorem sure_ck {M : Mk} (he : M.err = 0) {l : List Nat} (h : sureV M = some l) : M.ckS M.m (fun i => stR M.q l (aL M.q l l.length) l.length i) = 0 := by
 have hf := Mk.fine he
 have ⟨hl, hl5⟩ := sure_ok hf h
 have ⟨a1, a2⟩ := aL_bd hf.od hl l.length (Nat.le_refl _)
 have a3 := pw_le hl5
 have hst : M.stk M.m (fun i => stR M.q l (aL M.q l l.length) l.length i) = 0 := by
  unfold Mk.stk
  rw [if_pos he, if_pos rfl, if_pos]
  intro i _
  have := stR_bd (A := aL M.q l l.length) hf.od hl (Nat.le_refl l.length) i
  show 0 ≤ stR M.q l (aL M.q l l.length) l.length i ∧ stR M.q l (aL M.q l l.length) l.length i ≤ 1099511627776
  omega
 exact (Mk.ckS_0 hst fun w hw => sure_pos hf h hw).symm
end Go.Od
end
section
set_option linter.unusedVariables false
set_option linter.unusedSimpArgs false
namespace Go.Od
open Go.Proofs
def wsum (c : Nat → Int) (f : Nat → Int) : Nat → Int
 | 0 => 0
 | n + 1 => wsum c f n + c n * f n
theorem wsum_add {c f g : Nat → Int} : ∀ {n : Nat}, wsum c (fun w => f w + g w) n = wsum c f n + wsum c g n
 | 0 => rfl
 | n + 1 => by simp only [wsum]; rw [wsum_add (n := n), Int.mul_add]; omega
theorem wsum_neg {c f : Nat → Int} : ∀ {n : Nat}, wsum c (fun w => -f w) n = -wsum c f n
 | 0 => rfl
 | n + 1 => by simp only [wsum]; rw [wsum_neg (n := n), Int.mul_neg]; omega
theorem wsum_X {c : Nat → Int} {q : Qt} {s : Int} {r : Nat} (hr : q.r = r) : ∀ {n : Nat}, wsum c (fun w => wonX q s w) n = -2520 * s * sumTo c n + (if r < n then c r * ((2520 : Int).tdiv q.d * q.n * s + 2520 * s) else 0)
 | 0 => by rw [if_neg (by omega)]; simp [wsum, sumTo]
 | n + 1 => by
  simp only [wsum, sumTo]
  rw [wsum_X hr (n := n)]
  unfold wonX
  by_cases e : r = n
  ·subst e
   rw [if_neg (by omega), if_pos hr, if_pos (by omega)]
   grind
  ·rw [if_neg (show ¬ q.r = (n : Int) by omega)]
   by_cases e2 : r < n
   ·rw [if_pos e2, if_pos (show r < n + 1 by omega)]; grind
   ·rw [if_neg e2, if_neg (show ¬ r < n + 1 by omega)]; grind
theorem wsum_V {c : Nat → Int} {q : Qt} (h : (0 ≤ q.n ∧ q.n ≤ 190) ∧ 1 ≤ q.d ∧ q.d ≤ 10) {n : Nat} (hr : 0 ≤ q.r ∧ q.r < n) {s : Int} (hs : 0 ≤ s) (hq : fairQ q c (sumTo c n)) : wsum c (fun w => wonV q s w) n ≤ 0 := by
 obtain ⟨r, er⟩ : ∃ r : Nat, q.r = r := ⟨q.r.toNat, by omega⟩
 have hX := wsum_X (c := c) (s := s) er (n := n)
 rw [if_pos (by omega)] at hX
 have hd := div2520 h.2.1 h.2.2
 have hK : 0 ≤ (2520 : Int).tdiv q.d := Int.tdiv_nonneg (by omega) (by omega)
 generalize (2520 : Int).tdiv q.d = K at *
 have e : -2520 * s * sumTo c n + c r * (K * q.n * s + 2520 * s) = K * s * (c r * (q.d + q.n) - sumTo c n * q.d) := by
  rw [show (-2520 : Int) = -(K * q.d) by omega, show (2520 : Int) = K * q.d by omega]
  grind
 rw [e] at hX
 have hKs := Int.mul_nonneg hK hs
 unfold fairQ at hq
 rw [er, Int.toNat_natCast] at hq
 unfold wonV
 by_cases hl : q.l = true
 ·rw [if_pos hl] at hq
  simp only [hl, if_true]
  rw [wsum_neg (f := fun w : Nat => wonX q s w), hX]
  have := Int.mul_nonneg hKs (show 0 ≤ c r * (q.d + q.n) - sumTo c n * q.d by omega)
  omega
 ·rw [if_neg hl] at hq
  have hl' : q.l = false := by simpa using hl
  simp only [hl', if_false, Bool.false_eq_true]
  rw [hX]
  have := Int.mul_nonneg hKs (show 0 ≤ sumTo c n * q.d - c r * (q.d + q.n) by omega)
  have e2 : K * s * (sumTo c n * q.d - c r * (q.d + q.n)) = -(K * s * (c r * (q.d + q.n) - sumTo c n * q.d)) := by grind
  omega
theorem wdual {q : Nat → Qt} {c s : Nat → Int} {n : Nat} : ∀ {m : Nat}, okO q m → okS n q m → (∀ i, i < m → 0 ≤ s i) → (∀ i, i < m → fairQ (q i) c (sumTo c n)) → wsum c (fun w => netT q s w m) n ≤ 0
 | 0, _, _, _, _ => by
  have : ∀ k, wsum c (fun w => netT q s w 0) k = 0 := fun k => by
   induction k with
   | zero => rfl
   | succ k ih =>
    have ih : wsum c (fun _ => 0) k = 0 := ih
    simp only [wsum, netT]; rw [ih]; omega
  rw [this]; exact Int.le_refl 0
 | m + 1, h1, h2, h3, h4 => by
  have ih := wdual (m := m) (fun i hi => h1 i (by omega)) (fun i hi => h2 i (by omega)) (fun i hi => h3 i (by omega)) (fun i hi => h4 i (by omega))
  have hv := wsum_V (h1 m (by omega)) (h2 m (by omega)) (h3 m (by omega)) (h4 m (by omega))
  simp only [netT]
  rw [wsum_add (f := fun w : Nat => netT q s w m) (g := fun w : Nat => wonV (q m) (s m) w)]
  omega
theorem chE_0 {M : Mk} {k : Nat} {c : Nat → Int} (h : M.chE k c = 0) : M.err = 0 ∧ (k : Int) = M.run ∧ okC c k ∧ fairC M.q c (sumTo c k) M.m := by
 unfold Mk.chE at h
 split at h
 ·rename_i h1
  split at h
  ·rename_i h2
   split at h
   ·rename_i h3
    split at h
    ·rename_i h4; exact ⟨h1, h2, h3, h4⟩
    ·cases h
   ·cases h
  ·cases h
 ·rename_i h1; exact absurd h h1
theorem ckS_win {M : Mk} {k : Nat} {s : Nat → Int} (h : M.ckS k s = 0) : M.err = 0 ∧ k = M.m ∧ allS s k ∧ winF M.q s M.m M.run.toNat := by
 unfold Mk.ckS at h
 split at h
 ·rename_i h1
  split at h
  ·rename_i h2
   unfold Mk.stk at h1
   split at h1
   ·rename_i h3
    split at h1
    ·rename_i h4
     split at h1
     ·rename_i h5; exact ⟨h3, h4, h5, h2⟩
     ·cases h1
    ·cases h1
   ·rename_i h3; exact absurd h1 h3
  ·cases h
 ·rename_i h1; exact absurd h h1
theorem wsum_pos' {c f : Nat → Int} : ∀ {n : Nat}, (∀ j, j < n → 0 ≤ c j) → (∀ j, j < n → 0 < f j) → sumTo c n ≤ wsum c f n
 | 0, _, _ => Int.le_refl 0
 | n + 1, hc, h => by
  simp only [wsum, sumTo]
  have h1 := wsum_pos' (n := n) (fun j hj => hc j (by omega)) fun j hj => h j (by omega)
  have h2 := Int.mul_le_mul_of_nonneg_left (show 1 ≤ f n from h n (by omega)) (hc n (by omega))
  omega
theorem not_both {M : Mk} {k j : Nat} {c s : Nat → Int} (h1 : M.chE k c = 0) (h2 : M.ckS j s = 0) : False := by
 have ⟨he, hk, ⟨hc, hs1, _⟩, hfr⟩ := chE_0 h1
 have ⟨_, hj, hs, hw⟩ := ckS_win h2
 have hf := Mk.fine he
 subst hj
 have hkn : M.run.toNat = k := by omega
 rw [hkn] at hw
 have hst : okS k M.q M.m := by rw [hk]; exact hf.st
 have a := wdual (n := k) hf.od hst (fun i hi => (hs i hi).1) hfr
 have b := wsum_pos' (c := c) (f := fun w : Nat => netT M.q s w M.m) (n := k) (fun i hi => (hc i hi).1) fun w hw' => hw w hw'
 omega
end Go.Od
end
