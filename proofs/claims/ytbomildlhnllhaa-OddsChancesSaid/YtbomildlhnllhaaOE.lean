/- A part of the proof. -/
import Derived.Test.YtbomildlhnllhaaOD
import Derived.Test.YtbomildlhnllhaaEF
section
set_option linter.unusedSimpArgs false
set_option linter.unusedVariables false
set_option linter.defProp false
set_option maxRecDepth 100000
namespace Go.Od
open Go.Proofs
open Go.Sx
def xq (q : Qt) : Fr := red ⟨q.d, q.d + q.n⟩
def loS (q : Nat → Qt) (r : Int) : Nat → Fr
 | 0 => ⟨0, 1⟩
 | i + 1 => if (q i).r = r ∧ (q i).l = true ∧ lt (loS q r i) (xq (q i)) then xq (q i) else loS q r i
def hiS (q : Nat → Qt) (r : Int) : Nat → Fr
 | 0 => ⟨1, 1⟩
 | i + 1 => if (q i).r = r ∧ (q i).l = false ∧ lt (xq (q i)) (hiS q r i) then xq (q i) else hiS q r i
def better (q : Nat → Qt) (i : Nat) : Prop := if (q i).l = true then lt (loS q (q i).r i) (xq (q i)) else lt (xq (q i)) (hiS q (q i).r i)
instance (q : Nat → Qt) (i : Nat) : Decidable (better q i) := by unfold better; infer_instance
def byS (q : Nat → Qt) (r : Int) (l : Bool) : Nat → Option Nat
 | 0 => none
 | i + 1 => if (q i).r = r ∧ (q i).l = l ∧ better q i then some i else byS q r l i
structure Ch (a : Fr) : Prop where
 n0 : 0 ≤ a.n
 nd : a.n ≤ a.d
 d1 : 1 ≤ a.d
 d2 : a.d ≤ 200
theorem xq_ch {q : Qt} (h : (0 ≤ q.n ∧ q.n ≤ 190) ∧ 1 ≤ q.d ∧ q.d ≤ 10) : Ch (xq q) ∧ 0 < (xq q).n ∧ (xq q).n * (q.d + q.n) = q.d * (xq q).d := by
 obtain ⟨⟨h1, h2⟩, h3, h4⟩ := h
 have ⟨s1, s2, s3, s4⟩ := red_spec (a := ⟨q.d, q.d + q.n⟩) (by show 0 < q.d + q.n; omega)
 unfold xq
 generalize red ⟨q.d, q.d + q.n⟩ = x at *
 have s3 : x.n * (q.d + q.n) = q.d * x.d := s3
 have s4 : x.d ≤ q.d + q.n := s4
 have p1 : 0 < q.d * x.d := Int.mul_pos (by omega) s1
 have hn : 0 < x.n := by
  refine Int.not_le.1 fun h => ?_
  have := Int.mul_nonpos_of_nonpos_of_nonneg h (show 0 ≤ q.d + q.n by omega)
  omega
 have hle : x.n ≤ x.d := by
  refine Int.not_lt.1 fun h => ?_
  have e1 : x.d * (q.d + q.n) < x.n * (q.d + q.n) := Int.mul_lt_mul_of_pos_right h (by omega)
  have e2 : q.d * x.d ≤ (q.d + q.n) * x.d := Int.mul_le_mul_of_nonneg_right (by omega) (by omega)
  have e3 : x.d * (q.d + q.n) = (q.d + q.n) * x.d := Int.mul_comm _ _
  omega
 exact ⟨⟨by omega, hle, by omega, by omega⟩, hn, s3⟩
theorem loS_ch {q : Nat → Qt} {r : Int} : ∀ {m : Nat}, okO q m → Ch (loS q r m)
 | 0, _ => ⟨Int.le_refl 0, by show (0:Int) ≤ 1; decide, Int.le_refl 1, by show (1 : Int) ≤ 200; decide⟩
 | m + 1, h => by
  have ih := loS_ch (q := q) (r := r) (m := m) fun i hi => h i (by omega)
  simp only [loS]
  split
  ·exact (xq_ch (h m (by omega))).1
  ·exact ih
theorem hiS_ch {q : Nat → Qt} {r : Int} : ∀ {m : Nat}, okO q m → Ch (hiS q r m)
 | 0, _ => ⟨by show (0 : Int) ≤ 1; decide, Int.le_refl 1, Int.le_refl 1, by show (1 : Int) ≤ 200; decide⟩
 | m + 1, h => by
  have ih := hiS_ch (q := q) (r := r) (m := m) fun i hi => h i (by omega)
  simp only [hiS]
  split
  ·exact (xq_ch (h m (by omega))).1
  ·exact ih
theorem Ch.in1 {a b : Fr} (ha : Ch a) (hb : Ch b) : 0 ≤ a.n * b.d ∧ a.n * b.d ≤ 200 * 200 := by
 have := ha.n0; have := ha.nd; have := ha.d2; have := hb.d1; have := hb.d2
 exact mul_in a.n b.d 200 200 (by omega) (by omega) (by omega) (by omega)
def kv (r : Int) (l : Bool) : Value := .agg #[.int .i64 r, .bool l]
def k1 (v : Value) : Int := match v with | .agg cs => (match cs.toList with | [.int _ n, _] => n | _ => 0) | _ => 0
def k2 (v : Value) : Bool := match v with | .agg cs => (match cs.toList with | [_, .bool b] => b | _ => false) | _ => false
abbrev kfS : Value → Bool := keyFit true [Lf.i .i64, Lf.b]
theorem kf_kv (r : Int) (l : Bool) : kfS (kv r l) = true := rfl
theorem k1_kv (r : Int) (l : Bool) : k1 (kv r l) = r := rfl
theorem k2_kv (r : Int) (l : Bool) : k2 (kv r l) = l := rfl
theorem kf_spec {v : Value} (h : kfS v = true) : v = kv (k1 v) (k2 v) := by
 unfold kfS keyFit at h
 cases v with
 | agg cs =>
  simp only [] at h
  obtain ⟨l⟩ := cs
  match l, h with
  | [.int .i64 n, .bool b], h => rfl
 | _ => cases h
def bDom (q : Nat → Qt) (i : Nat) (v : Value) : Bool := kfS v && (byS q (k1 v) (k2 v) i).isSome
def oI : Option Nat → SV
 | some n => I n
 | none => .top
def bGet (q : Nat → Qt) (i : Nat) (v : Value) : SV := if kfS v = true then oI (byS q (k1 v) (k2 v) i) else .top
theorem bDom_kv (q : Nat → Qt) (i : Nat) (r : Int) (l : Bool) : bDom q i (kv r l) = (byS q r l i).isSome := by
 unfold bDom; rw [kf_kv, k1_kv, k2_kv]; rfl
theorem bGet_kv (q : Nat → Qt) (i : Nat) (r : Int) (l : Bool) : bGet q i (kv r l) = oI (byS q r l i) := by
 unfold bGet; rw [if_pos (kf_kv r l), k1_kv, k2_kv]
theorem eqK_kv {r : Int} {l : Bool} {v : Value} : eqK (kv r l) v = true ↔ v = kv r l := by
 constructor
 ·intro h; exact (eqK_eq h).symm
 ·rintro rfl; simp [eqK, kv, seqVs, seqV]
theorem by_hit {q : Nat → Qt} {i : Nat} (h : better q i) : byS q (q i).r (q i).l (i + 1) = some i := by
 simp only [byS]; rw [if_pos ⟨trivial, trivial, h⟩]
theorem by_other {q : Nat → Qt} {i : Nat} {r : Int} {l : Bool} (h : ¬ ((q i).r = r ∧ (q i).l = l)) : byS q r l (i + 1) = byS q r l i := by
 simp only [byS]; rw [if_neg (fun h2 => h ⟨h2.1, h2.2.1⟩)]
theorem by_miss {q : Nat → Qt} {i : Nat} {r : Int} {l : Bool} (h : ¬ better q i) : byS q r l (i + 1) = byS q r l i := by
 simp only [byS]; rw [if_neg (fun h2 => h h2.2.2)]
theorem key_ne {q : Nat → Qt} {i : Nat} {v : Value} (hk : kfS v = true) (h : eqK (kv (q i).r (q i).l) v = false) : ¬ ((q i).r = k1 v ∧ (q i).l = k2 v) := fun ⟨e1, e2⟩ => by
 have : v = kv (q i).r (q i).l := by rw [e1, e2]; exact kf_spec hk
 rw [eqK_kv.2 this] at h; cases h
theorem dom_put {q : Nat → Qt} {i : Nat} (h : better q i) : putDom (bDom q i) (kv (q i).r (q i).l) = bDom q (i + 1) := by
 funext v
 unfold putDom
 cases he : eqK (kv (q i).r (q i).l) v with
 | true =>
  rw [eqK_kv.1 he, bDom_kv, bDom_kv, by_hit h]; rfl
 | false =>
  rw [Bool.false_or]
  unfold bDom
  cases hk : kfS v with
  | false => rfl
  | true => rw [by_other (key_ne hk he)]
theorem get_put {q : Nat → Qt} {i : Nat} (h : better q i) : putGet (bGet q i) (kv (q i).r (q i).l) (.val (.int .i64 (i : Nat))) = bGet q (i + 1) := by
 funext v
 unfold putGet svIte
 cases he : eqK (kv (q i).r (q i).l) v with
 | true =>
  rw [eqK_kv.1 he, bGet_kv, bGet_kv, by_hit h, if_pos rfl]; rfl
 | false =>
  rw [if_neg (by decide)]
  unfold bGet
  cases hk : kfS v with
  | false => rfl
  | true => rw [by_other (key_ne hk he)]
theorem put_put (g : Value → SV) (v : Value) (x y : SV) : putGet (putGet g v x) v y = putGet g v y := by
 funext u
 unfold putGet svIte
 split <;> simp_all
theorem dom_miss {q : Nat → Qt} {i : Nat} (h : ¬ better q i) : bDom q (i + 1) = bDom q i := by funext v; unfold bDom; rw [by_miss h]
theorem get_miss {q : Nat → Qt} {i : Nat} (h : ¬ better q i) : bGet q (i + 1) = bGet q i := by funext v; unfold bGet; rw [by_miss h]
theorem get_zero (q : Nat → Qt) : bGet q 0 = fun _ => .top := by funext v; unfold bGet; simp [byS, oI]
theorem dom_zero (q : Nat → Qt) : bDom q 0 = fun _ => false := by funext v; unfold bDom; simp [byS]
def dlo (M : Mk) (i k : Nat) : Fr := if (k : Int) < M.run then loS M.q k i else ⟨0, 0⟩
def dhi (M : Mk) (i k : Nat) : Fr := if (k : Int) < M.run then hiS M.q k i else ⟨0, 0⟩
abbrev vI (n : Int) : SV := .val (.int .i64 n)
def dkL (run : Int) (m : Nat) (q : Nat → Qt) (lo hi : Nat → Fr) (mid : Nat) : List SV :=
 [vI run, .arr false false m 4 (fun i j => qf (q i) j), vI (lo 0).n, vI (lo 0).d, vI (lo 1).n, vI (lo 1).d, vI (lo 2).n, vI (lo 2).d, vI (lo 3).n, vI (lo 3).d, vI (lo 4).n, vI (lo 4).d,
  vI (hi 0).n, vI (hi 0).d, vI (hi 1).n, vI (hi 1).d, vI (hi 2).n, vI (hi 2).d, vI (hi 3).n, vI (hi 3).d, vI (hi 4).n, vI (hi 4).d, .mp mid]
def updF (f : Nat → Fr) (k : Nat) (x : Fr) (j : Nat) : Fr := if j = k then x else f j
section
variable (run : Int) (m : Nat) (q : Nat → Qt) (lo hi : Nat → Fr) (mid : Nat)
theorem dk_len : (dkL run m q lo hi mid).length = 23 := rfl
theorem five {k : Nat} (h : k < 5) : k = 0 ∨ k = 1 ∨ k = 2 ∨ k = 3 ∨ k = 4 := by omega
theorem dk_lo {k : Nat} (h : k < 5) : ((dkL run m q lo hi mid).drop (2 + k * 2)).take 2 = [vI (lo k).n, vI (lo k).d] := by
 rcases five h with rfl | rfl | rfl | rfl | rfl <;> rfl
theorem dk_hi {k : Nat} (h : k < 5) : ((dkL run m q lo hi mid).drop (12 + k * 2)).take 2 = [vI (hi k).n, vI (hi k).d] := by
 rcases five h with rfl | rfl | rfl | rfl | rfl <;> rfl
theorem dk_setlo {k : Nat} (h : k < 5) (x : Fr) : (dkL run m q lo hi mid).take (2 + k * 2) ++ [vI x.n, vI x.d] ++ (dkL run m q lo hi mid).drop (2 + k * 2 + 2) = dkL run m q (updF lo k x) hi mid := by
 rcases five h with rfl | rfl | rfl | rfl | rfl <;> rfl
theorem dk_sethi {k : Nat} (h : k < 5) (x : Fr) : (dkL run m q lo hi mid).take (12 + k * 2) ++ [vI x.n, vI x.d] ++ (dkL run m q lo hi mid).drop (12 + k * 2 + 2) = dkL run m q lo (updF hi k x) mid := by
 rcases five h with rfl | rfl | rfl | rfl | rfl <;> rfl
theorem dk_0 : (dkL run m q lo hi mid)[0]? = some (vI run) := rfl
theorem dk_22 : (dkL run m q lo hi mid)[22]? = some (.mp mid) := rfl
end
end Go.Od
end
section
set_option linter.unusedSimpArgs false
set_option linter.unusedVariables false
set_option linter.defProp false
set_option maxRecDepth 100000
set_option maxHeartbeats 16000000
namespace Go.Od
open Go.Proofs
open Go.Sx
theorem mi116 : mapInfo Try.prog 116 = some ⟨true, [Lf.i .i64, Lf.b], .int .i64 0⟩ := by kernel_rfl
theorem TYd : True ∧ tyOf Try.prog 115 = some ⟨true, 10, some [.int .i64 0, .int .i64 0, .int .i64 0, .int .i64 0, .int .i64 0, .int .i64 0, .int .i64 0, .int .i64 0, .int .i64 0, .int .i64 0], .array 5 23 2⟩ ∧ tyOf Try.prog 116 = some ⟨false, 1, some [.map none], .map 120 3⟩ ∧ mapInfo Try.prog 116 = some ⟨true, [Lf.i .i64, Lf.b], .int .i64 0⟩ ∧ placesOf Try.prog 118 = some [(0, 2), (2, 10), (12, 10), (22, 1)] := ⟨trivial, by kernel_rfl, by kernel_rfl, mi116, by kernel_rfl⟩
theorem names85 {a n : Nat} (h : a + 7 ≤ n) : ((∀ k, (a = n + k) = False) ∧ (∀ k, (n + k = a) = False) ∧ (a = n) = False ∧ (n = a) = False) ∧ ((n = a + 1) = False ∧ (a + 1 = n) = False ∧ (n = a + 2) = False ∧ (a + 2 = n) = False ∧ (n = a + 3) = False ∧ (a + 3 = n) = False ∧ (n = a + 4) = False ∧ (a + 4 = n) = False ∧ (n = a + 5) = False ∧ (a + 5 = n) = False ∧ (n = a + 6) = False ∧ (a + 6 = n) = False) ∧ ((∀ k, (a + 1 = n + k) = False) ∧ (∀ k, (n + k = a + 1) = False) ∧ (∀ k, (a + 2 = n + k) = False) ∧ (∀ k, (n + k = a + 2) = False) ∧ (∀ k, (a + 3 = n + k) = False) ∧ (∀ k, (n + k = a + 3) = False) ∧ (∀ k, (a + 4 = n + k) = False) ∧ (∀ k, (n + k = a + 4) = False) ∧ (∀ k, (a + 5 = n + k) = False) ∧ (∀ k, (n + k = a + 5) = False)) := by
 refine ⟨⟨fun k => ?_, fun k => ?_, ?_, ?_⟩, ⟨?_, ?_, ?_, ?_, ?_, ?_, ?_, ?_, ?_, ?_, ?_, ?_⟩, ⟨fun k => ?_, fun k => ?_, fun k => ?_, fun k => ?_, fun k => ?_, fun k => ?_, fun k => ?_, fun k => ?_, fun k => ?_, fun k => ?_⟩⟩ <;> (rw [eq_iff_iff, iff_false]; omega)
abbrev mpB (M : Mk) (i : Nat) : Blk := .map kfS (bDom M.q i) (bGet M.q i)
abbrev boxB (M : Mk) : Blk := .cells 44 [.val (.int .i64 M.run), .arr false false M.m 4 (fun i j => qf (M.q i) j)]
abbrev dkB (M : Mk) (lo hi : Nat → Fr) (mid : Nat) : Blk := .cells 118 (dkL M.run M.m M.q lo hi mid)
theorem miss (M : Mk) (i : Nat) (h : ¬ better M.q i) : dlo M (i + 1) = dlo M i ∧ dhi M (i + 1) = dhi M i ∧ mpB M (i + 1) = mpB M i := by
 refine ⟨?_, ?_, ?_⟩
 ·funext k
  unfold dlo
  split
  ·simp only [loS]
   rw [if_neg]
   rintro ⟨e1, e2, e3⟩
   refine h ?_
   unfold better
   rw [if_pos e2, e1]; exact e3
  ·rfl
 ·funext k
  unfold dhi
  split
  ·simp only [hiS]
   rw [if_neg]
   rintro ⟨e1, e2, e3⟩
   refine h ?_
   unfold better
   rw [if_neg (by rw [e2]; decide), e1]; exact e3
  ·rfl
 ·show Blk.map kfS (bDom M.q (i + 1)) (bGet M.q (i + 1)) = _
  rw [dom_miss h, get_miss h]
theorem hit_lo (M : Mk) (i : Nat) {k : Nat} (hk : (M.q i).r = k) (hr : (k : Int) < M.run) (hl : (M.q i).l = true) (h : better M.q i) : dlo M (i + 1) = updF (dlo M i) k (xq (M.q i)) ∧ dhi M (i + 1) = dhi M i := by
 have h0 := h
 unfold better at h
 rw [if_pos hl, hk] at h
 constructor
 ·funext j
  unfold updF
  by_cases e : j = k
  ·subst e
   rw [if_pos rfl]
   unfold dlo
   rw [if_pos hr]
   simp only [loS]
   rw [if_pos ⟨hk, hl, h⟩]
  ·rw [if_neg e]
   unfold dlo
   split
   ·simp only [loS]
    rw [if_neg]
    rintro ⟨e1, _⟩
    omega
   ·rfl
 ·funext j
  unfold dhi
  split
  ·simp only [hiS]
   rw [if_neg]
   rintro ⟨_, e1, _⟩
   rw [hl] at e1; cases e1
  ·rfl
theorem hit_hi (M : Mk) (i : Nat) {k : Nat} (hk : (M.q i).r = k) (hr : (k : Int) < M.run) (hl : (M.q i).l = false) (h : better M.q i) : dhi M (i + 1) = updF (dhi M i) k (xq (M.q i)) ∧ dlo M (i + 1) = dlo M i := by
 have h0 := h
 unfold better at h
 rw [if_neg (by rw [hl]; decide), hk] at h
 constructor
 ·funext j
  unfold updF
  by_cases e : j = k
  ·subst e
   rw [if_pos rfl]
   unfold dhi
   rw [if_pos hr]
   simp only [hiS]
   rw [if_pos ⟨hk, hl, h⟩]
  ·rw [if_neg e]
   unfold dhi
   split
   ·simp only [hiS]
    rw [if_neg]
    rintro ⟨e1, _⟩
    omega
   ·rfl
 ·funext j
  unfold dlo
  split
  ·simp only [loS]
   rw [if_neg]
   rintro ⟨_, e1, _⟩
   rw [hl] at e1; cases e1
  ·rfl
theorem dom_old {q : Nat → Qt} {i : Nat} (h : better q i) (hd : bDom q i (kv (q i).r (q i).l) = true) : bDom q i = bDom q (i + 1) := by
 rw [← dom_put h]
 funext v
 unfold putDom
 cases he : eqK (kv (q i).r (q i).l) v with
 | true => rw [eqK_kv.1 he, hd]; rfl
 | false => rfl
def selM : Bool → Bool → Blk → Blk → Blk → Blk
 | _, true, _, _, z => z
 | true, false, _, y, _ => y
 | false, false, x, _, _ => x
def selF : Bool → (Nat → Fr) → (Nat → Fr) → Nat → Fr
 | true, x, _ => x
 | false, _, y => y
theorem selF_t (x y : Nat → Fr) : selF true x y = x := rfl
theorem selF_f (x y : Nat → Fr) : selF false x y = y := rfl
theorem selM_z (b : Bool) (x y z : Blk) : selM b true x y z = z := by cases b <;> rfl
theorem selM_y (x y z : Blk) : selM true false x y z = y := rfl
theorem selM_x (x y z : Blk) : selM false false x y z = x := rfl
theorem subDesk {id a b c : Nat} {A B C D E F : Blk} {rest : List (Nat × Blk)} (hr : Under rest id) (ha : id + 7 ≤ a) (hb : id + 7 ≤ b) (hc : id + 7 ≤ c) : SubHp ((a, A) :: (b, B) :: (c, C) :: (id + 5, D) :: (id + 3, E) :: (id, F) :: rest) ((id + 5, D) :: (id + 3, E) :: (id, F) :: rest) := by
 have key : ∀ n, id + 7 ≤ n → blk ((id + 5, D) :: (id + 3, E) :: (id, F) :: rest) n = none := fun n hn => by
  simp only [blk]
  rw [if_neg (by omega), if_neg (by omega), if_neg (by omega)]
  exact hr.none (by omega)
 exact SubHp.skip (key a ha) (SubHp.skip (key b hb) (SubHp.skip (key c hc) (SubHp.refl _)))
theorem keyInfo120 : keyInfo Try.prog 120 = some (true, [Lf.i .i64, Lf.b]) := by kernel_rfl
def ini (M : Mk) (i : Nat) (x : Fr) (k : Nat) : Fr := if k < i then x else ⟨0, 0⟩
theorem ini_upd (M : Mk) (i : Nat) (x : Fr) : updF (ini M i x) i x = ini M (i + 1) x := by
 funext k
 unfold updF ini
 by_cases e : k = i
 ·rw [if_pos e, if_pos (by omega)]
 ·rw [if_neg e]
  by_cases e2 : k < i
  ·rw [if_pos e2, if_pos (by omega)]
  ·rw [if_neg e2, if_neg (by omega)]
theorem ini_lo (M : Mk) (i : Nat) (h : (i : Int) = M.run) : ini M i ⟨0, 1⟩ = dlo M 0 := by
 funext k
 unfold ini dlo
 by_cases e : k < i
 ·rw [if_pos e, if_pos (by omega)]; rfl
 ·rw [if_neg e, if_neg (by omega)]
theorem ini_hi (M : Mk) (i : Nat) (h : (i : Int) = M.run) : ini M i ⟨1, 1⟩ = dhi M 0 := by
 funext k
 unfold ini dhi
 by_cases e : k < i
 ·rw [if_pos e, if_pos (by omega)]; rfl
 ·rw [if_neg e, if_neg (by omega)]
theorem e85 (M : Mk) (hf : M.Fine) (id : Nat) (rest : List (Nat × Blk)) (hr : Under rest id) : EffVC Try.prog 85 [M.sv] rest id (fun hp' nid' res =>
  hp' = (id + 5, dkB M (dlo M M.m) (dhi M M.m) (id + 3)) :: (id + 3, mpB M M.m) :: (id, boxB M) :: rest ∧ id + 7 ≤ nid' ∧ res = .ptr (id + 5) 0) := by
 refine eff_ofF (farL [(10, [(47, 7), (49, 7)]), (12, [(0, 0)]), (14, [(0, 0)])]) follows Try.func85 rfl (by kernel_rfl) (by kernel_rfl) (by rw [Try.ntmps85]; simp) fun out => ?_
 have hr0 : blk rest id = none := hr.none (Nat.le_refl _)
 have NB : True := trivial
 have hlen : ∀ run m q lo hi mid, (dkL run m q lo hi mid).length = 23 := dk_len
 have hr5 := hf.r5
 have hr1 := hf.r1
 have hm := hf.m12
 conv => arg 4; unfold Mk.sv qts I
 (repeat' (first | with_reducible refine splitVC_d (fun _ => ?_) (fun _ => ?_) | with_reducible refine splitVC (fun _ => ?_) (fun _ => ?_) | ((with_reducible refine And.intro ?_ ?_); focus (first | exact True.intro | omega | (simp only [InK, ne_eq, and_true, true_and]; omega) | trivial)) | (simp -dsimp only [↓RP, RQ, implies_true, forall_const, Nat.reduceMul, reduceIte, reduceCtorEq, Nat.reduceAdd, Nat.reduceEqDiff, Nat.reduceLT, Nat.reduceLeDiff, ↓RW, NB, hr0, hlen, Nat.add_zero, Nat.add_assoc, self_F1, self_F2, effK_ret, effK_normal, TYm, TYn, TYd, QF, fsv, B, I, by2, RZ, eq_self, TY, Try.results85])))
 refine loop_vc (fun (z : Nat × Nat) => (z.1 : Int) ≤ M.run ∧ id + 7 ≤ z.2) (fun z => ⟨[(1, .ptr id 0), (2, .val (.pointer none)), (3, .ptr (id + 5) 0), (14, .val (.int .i64 M.run)), (15, .val (.int .i64 z.1))], (id + 5, dkB M (ini M z.1 ⟨0, 1⟩) (ini M z.1 ⟨1, 1⟩) (id + 3)) :: (id + 3, mpB M 0) :: (id, boxB M) :: rest, z.2⟩) (fun z => (M.run - z.1).toNat) (0, id + 10) ⟨by simp only []; omega, by simp only []; omega⟩ (weakS ?_ ?_) fun z hz => ?_
 ·simp [SubFr, Go.Sx.look]
 ·rw [show mpB M 0 = .map kfS (fun _ => false) (fun _ => .top) by show (Blk.map kfS (bDom M.q 0) (bGet M.q 0)) = _; rw [dom_zero, get_zero]]
  exact SubHp.refl _
 obtain ⟨i, nid⟩ := z
 obtain ⟨hz1, hz2⟩ := hz
 simp only [] at hz1 hz2
 have NB := names85 hz2
 by_cases hlt : (i : Int) < M.run
 ·have hi5 : i < 5 := by omega
  have gs1 := dk_setlo M.run M.m M.q (ini M i ⟨0, 1⟩) (ini M i ⟨1, 1⟩) (id + 3) hi5 ⟨0, 1⟩
  have gs2 := dk_sethi M.run M.m M.q (updF (ini M i ⟨0, 1⟩) i ⟨0, 1⟩) (ini M i ⟨1, 1⟩) (id + 3) hi5 ⟨1, 1⟩
  simp only [Nat.add_assoc] at gs1 gs2
  (repeat' (first | with_reducible refine splitVC_d (fun _ => ?_) (fun _ => ?_) | with_reducible refine splitVC (fun _ => ?_) (fun _ => ?_) | ((with_reducible refine And.intro ?_ ?_); focus (first | exact True.intro | omega | (simp only [InK, ne_eq, and_true, true_and]; omega) | trivial)) | (simp -dsimp only [↓RP, RQ, implies_true, forall_const, Nat.reduceMul, reduceIte, reduceCtorEq, Nat.reduceAdd, Nat.reduceEqDiff, Nat.reduceLT, Nat.reduceLeDiff, gs1, gs2, ↓RW, NB, hr0, hlen, Nat.add_zero, Nat.add_assoc, self_F1, self_F2, effK_ret, effK_normal, TYm, TYn, TYd, QF, fsv, B, I, by2, RZ, eq_self, TY, Try.results85])))
  all_goals first | (exfalso; omega) | skip
  refine ⟨(i + 1, nid + 19), ⟨by simp only []; omega, by simp only []; omega⟩, by simp only []; omega, weakS ?_ ?_⟩
  ·simp [SubFr, Go.Sx.look]
  ·rw [ini_upd, ini_upd]
   exact SubHp.refl _
 have ei : (i : Int) = M.run := by omega
 rw [ini_lo M i ei, ini_hi M i ei]
 (repeat' (first | with_reducible refine splitVC_d (fun _ => ?_) (fun _ => ?_) | with_reducible refine splitVC (fun _ => ?_) (fun _ => ?_) | ((with_reducible refine And.intro ?_ ?_); focus (first | exact True.intro | omega | (simp only [InK, ne_eq, and_true, true_and]; omega) | trivial)) | (simp -dsimp only [↓RP, RQ, implies_true, forall_const, Nat.reduceMul, reduceIte, reduceCtorEq, Nat.reduceAdd, Nat.reduceEqDiff, Nat.reduceLT, Nat.reduceLeDiff, ↓RW, NB, hr0, hlen, Nat.add_zero, Nat.add_assoc, self_F1, self_F2, effK_ret, effK_normal, TYm, TYn, TYd, QF, fsv, B, I, by2, RZ, eq_self, TY, Try.results85])))
 all_goals first | (exfalso; omega) | skip
 refine loop_vc (fun (z : Nat × Nat) => z.1 ≤ M.m ∧ id + 7 ≤ z.2) (fun z => ⟨[(1, .ptr id 0), (2, .val (.pointer none)), (3, .ptr (id + 5) 0), (32, .arr false false M.m 4 (fun i j => qf (M.q i) j)), (33, .val (.int .i64 M.m)), (34, .val (.int .i64 z.1))], (id + 5, dkB M (dlo M z.1) (dhi M z.1) (id + 3)) :: (id + 3, mpB M z.1) :: (id, boxB M) :: rest, z.2⟩) (fun z => M.m - z.1) (0, nid + 5) ⟨Nat.zero_le _, by simp only []; omega⟩ (weakS ?_ ?_) fun z hz => ?_
 ·simp [SubFr, Go.Sx.look]
 ·exact SubHp.refl _
 clear hz1 hz2 ei NB
 obtain ⟨i, nid⟩ := z
 obtain ⟨hz1, hz2⟩ := hz
 simp only [] at hz1 hz2
 have NB := names85 hz2
 by_cases hlt : i < M.m
 ·have hq := hf.od i hlt
  have hst := hf.st i hlt
  obtain ⟨k, hk⟩ : ∃ k : Nat, (M.q i).r = k := ⟨(M.q i).r.toNat, by omega⟩
  rw [hk] at hst
  have k5 : k < 5 := by omega
  have ⟨xc, xp, _⟩ := xq_ch hq
  have kx := c79 ⟨(M.q i).d, (M.q i).d + (M.q i).n⟩ (by show 0 < (M.q i).d + (M.q i).n; omega) (by show (M.q i).d + (M.q i).n ≤ _; omega) (by show _ ≤ (M.q i).d; omega) (by show (M.q i).d ≤ _; omega)
  rw [show red ⟨(M.q i).d, (M.q i).d + (M.q i).n⟩ = xq (M.q i) from rfl] at kx
  have el : dlo M i k = loS M.q k i := by unfold dlo; rw [if_pos hst.2]
  have eh : dhi M i k = hiS M.q k i := by unfold dhi; rw [if_pos hst.2]
  have gl := dk_lo M.run M.m M.q (dlo M i) (dhi M i) (id + 3) k5
  have gh := dk_hi M.run M.m M.q (dlo M i) (dhi M i) (id + 3) k5
  rw [el] at gl
  rw [eh] at gh
  have cl := loS_ch (q := M.q) (r := k) (m := i) fun j hj => hf.od j (by omega)
  have ch := hiS_ch (q := M.q) (r := k) (m := i) fun j hj => hf.od j (by omega)
  have n1 := cl.in1 xc
  have n2 := xc.in1 cl
  have n3 := ch.in1 xc
  have n4 := xc.in1 ch
  have hbet : better M.q i ↔ if (M.q i).l = true then lt (loS M.q (M.q i).r i) (xq (M.q i)) else lt (xq (M.q i)) (hiS M.q (M.q i).r i) := Iff.rfl
  rw [hk] at hbet
  have hno : ¬ better M.q i → dlo M (i + 1) = dlo M i ∧ dhi M (i + 1) = dhi M i ∧ mpB M (i + 1) = mpB M i := miss M i
  cases hl : (M.q i).l
  ·rw [hl, if_neg (by decide)] at hbet
   (repeat' (first | with_reducible refine splitVC_d (fun _ => ?_) (fun _ => ?_) | with_reducible refine splitVC (fun _ => ?_) (fun _ => ?_) | ((with_reducible refine And.intro ?_ ?_); focus (first | exact True.intro | omega | (simp only [InK, ne_eq, and_true, true_and]; omega) | trivial)) | (simp -dsimp only [↓RP, RQ, implies_true, forall_const, Nat.reduceMul, reduceIte, reduceCtorEq, Nat.reduceAdd, Nat.reduceEqDiff, Nat.reduceLT, Nat.reduceLeDiff, hk, hl, ↓RW, NB, hr0, hlen, Nat.add_zero, Nat.add_assoc, self_F1, self_F2, effK_ret, effK_normal, TYm, TYn, TYd, QF, fsv, B, I, by2, RZ, eq_self, TY, Try.results85])))
   all_goals first | (exfalso; omega) | skip
   refine callVC kx (by (simp -dsimp only [↓RP, RQ, implies_true, forall_const, Nat.reduceMul, reduceIte, reduceCtorEq, Nat.reduceAdd, Nat.reduceEqDiff, Nat.reduceLT, Nat.reduceLeDiff, Go.Od.ints, I]); all_goals (try simp)) (by (simp -dsimp only [↓RP, RQ, implies_true, forall_const, Nat.reduceMul, reduceIte, reduceCtorEq, Nat.reduceAdd, Nat.reduceEqDiff, Nat.reduceLT, Nat.reduceLeDiff, fsv, I])) ?_
   (repeat' (first | with_reducible refine splitVC_d (fun _ => ?_) (fun _ => ?_) | with_reducible refine splitVC (fun _ => ?_) (fun _ => ?_) | ((with_reducible refine And.intro ?_ ?_); focus (first | exact True.intro | omega | (simp only [InK, ne_eq, and_true, true_and]; omega) | trivial)) | (simp -dsimp only [↓RP, RQ, implies_true, forall_const, Nat.reduceMul, reduceIte, reduceCtorEq, Nat.reduceAdd, Nat.reduceEqDiff, Nat.reduceLT, Nat.reduceLeDiff, hk, hl, gh, ↓RW, NB, hr0, hlen, Nat.add_zero, Nat.add_assoc, self_F1, self_F2, effK_ret, effK_normal, TYm, TYn, TYd, QF, fsv, B, I, by2, RZ, eq_self, TY, Try.results85])))
   all_goals first | (exfalso; omega) | skip
   refine callVC (c66 (xq (M.q i)) (hiS M.q k i) (by simp only [InK]; omega) (by simp only [InK]; omega)) (by (simp -dsimp only [↓RP, RQ, implies_true, forall_const, Nat.reduceMul, reduceIte, reduceCtorEq, Nat.reduceAdd, Nat.reduceEqDiff, Nat.reduceLT, Nat.reduceLeDiff, fsv, Go.Od.ints, I, B]); all_goals (try simp)) (by (simp -dsimp only [↓RP, RQ, implies_true, forall_const, Nat.reduceMul, reduceIte, reduceCtorEq, Nat.reduceAdd, Nat.reduceEqDiff, Nat.reduceLT, Nat.reduceLeDiff, B])) ?_
   (repeat' (first | with_reducible refine splitVC_d (fun _ => ?_) (fun _ => ?_) | with_reducible refine splitVC (fun _ => ?_) (fun _ => ?_) | ((with_reducible refine And.intro ?_ ?_); focus (first | exact True.intro | omega | (simp only [InK, ne_eq, and_true, true_and]; omega) | trivial)) | (simp -dsimp only [↓RP, RQ, implies_true, forall_const, Nat.reduceMul, reduceIte, reduceCtorEq, Nat.reduceAdd, Nat.reduceEqDiff, Nat.reduceLT, Nat.reduceLeDiff, hk, hl, gh, ↓RW, NB, hr0, hlen, Nat.add_zero, Nat.add_assoc, self_F1, self_F2, effK_ret, effK_normal, TYm, TYn, TYd, QF, fsv, B, I, by2, RZ, eq_self, TY, Try.results85])))
   all_goals first | (exfalso; omega) | skip
   ·rename_i hlt2
    have hb : better M.q i := hbet.2 (by assumption)
    have eput := dom_put hb
    have hg0 := get_put hb
    have hold := dom_old hb
    have hdd : bDom M.q (i + 1) (kv (M.q i).r (M.q i).l) = true := by rw [bDom_kv, by_hit hb]; rfl
    rw [hk, hl] at eput hg0 hold hdd
    have hput := eput
    have gsl := dk_setlo M.run M.m M.q (dlo M i) (dhi M i) (id + 3) k5 (xq (M.q i))
    have gsh := dk_sethi M.run M.m M.q (dlo M i) (dhi M i) (id + 3) k5 (xq (M.q i))
    have dk22 := fun lo hi => dk_22 M.run M.m M.q lo hi (id + 3)
    simp only [Nat.add_assoc] at gsl gsh
    refine rawRegion follows (fun m st => ∃ (X : SV) (g : Value → SV) (stamp : Value → Nat) (clk n : Nat), putGet g (kv k false) (.val (.int .i64 (i : Nat))) = bGet M.q (i + 1) ∧ nid + 53 ≤ n ∧ st = ⟨[(1, .ptr id 0), (2, .val (.pointer none)), (3, .ptr (id + 5) 0), (5, .val (.int .i64 i)), (6, .ptr (nid + 4) 0), (7, .ptr (nid + 20) 0), (8, .ptr (nid + 21) 0), (32, .arr false false M.m 4 (fun i j => qf (M.q i) j)), (33, .val (.int .i64 M.m)), (34, .val (.int .i64 i)), (96, Go.Sx.up (m.testBit 0) (.ptr (id + 5) 0)), (97, Go.Sx.up (m.testBit 1) (.ptr (nid + 4) 0)), (98, Go.Sx.up (m.testBit 2) (.val (.int .i64 k))), (99, Go.Sx.up (m.testBit 3) (.ptr (id + 5) 0)), (100, Go.Sx.up (m.testBit 4) (.ptr (id + 5) 0)), (101, Go.Sx.up (m.testBit 5) (.ptr (id + 5) 22)), (102, Go.Sx.up (m.testBit 6) (.mp (id + 3))), (103, Go.Sx.up (m.testBit 7) (.agg [.val (.int .i64 k), .val (.bool false)])), (104, Go.Sx.up (m.testBit 8) (.agg [.val (.int .i64 (xq (M.q i)).n), .val (.int .i64 (xq (M.q i)).d)])), (105, Go.Sx.up (m.testBit 9) (.val (.int .i64 i))), (106, Go.Sx.up (m.testBit 10) (.ptr (id + 5) 0)), (107, Go.Sx.up (m.testBit 11) (.ptr (id + 5) 12)), (108, Go.Sx.up (m.testBit 12) (.ptr (id + 5) (12 + k * 2))), (109, Go.Sx.up (m.testBit 14) (.tup [X, .val (.int .i64 (stamp (kv k false)))])), (110, Go.Sx.up (m.testBit 15) (.val (.int .i64 (stamp (kv k false)))))], (nid + 21, .cells 120 [.val (.int .i64 k), .val (.bool false)]) :: (nid + 20, .cells 23 [.val (.int .i64 (xq (M.q i)).n), .val (.int .i64 (xq (M.q i)).d)]) :: (nid + 4, .cells 74 [.val (.int .i64 k), .val (.int .i64 (M.q i).n), .val (.int .i64 (M.q i).d), .val (.bool false)]) :: (id + 5, dkB M (dlo M i) (selF (m.testBit 13) (updF (dhi M i) k (xq (M.q i))) (dhi M i)) (id + 3)) :: (id + 3, selM (m.testBit 14) (m.testBit 16) (mpB M i) (.mapS kfS (bDom M.q (i + 1)) g stamp clk) (mpB M (i + 1))) :: (id, boxB M) :: rest, n⟩) (ms := [0, 0, 2, 0, 8, 24, 56, 0, 0, 0, 1, 1025, 3455, 7551, 15871, 32255, 65535]) (by kernel_rfl) (by kernel_rfl) (weakS (by simp [SubFr, Go.Sx.look, Go.Sx.up]) (by simp only [Nat.zero_testBit, selM_x, selF_f]; exact SubHp.refl _)) ⟨.top, bGet M.q i, fun _ => 0, 0, _, hg0, Nat.le_refl _, rfl⟩ (stepsH_cons ?_ <| stepsH_cons ?_ <| stepsH_cons ?_ <| stepsH_cons ?_ <| stepsH_cons ?_ <| stepsH_cons ?_ <| stepsH_cons ?_ <| stepsH_cons ?_ <| stepsH_cons ?_ <| stepsH_cons ?_ <| stepsH_cons ?_ <| stepsH_cons ?_ <| stepsH_cons ?_ <| stepsH_cons ?_ <| stepsH_cons ?_ <| stepsH_cons ?_ <| stepsH_cons ?_ <| stepsH_nil) ?_
    ·rintro m st ⟨X, g, stamp, clk, n, hg, hn, rfl⟩ hcl hbit hd
     unfold opH
     rw [guardVC_none]
     simp only [hbit, up_true, up_false, selM_x, selM_y, selM_z, selF_t, selF_f]
     refine .inl ?_
     (simp -dsimp only [↓RP, RQ, implies_true, forall_const, Nat.reduceMul, reduceIte, reduceCtorEq, Nat.reduceAdd, Nat.reduceEqDiff, Nat.reduceLT, Nat.reduceLeDiff, ↓RW, NB, hr0, hlen, Nat.add_zero, Nat.add_assoc, self_F1, self_F2, effK_ret, effK_normal, TYm, TYn, TYd, QF, hk, gsh, dk22, fsv, B, I, by2, RZ, eq_self, TY])
     try refine ⟨by (first | exact True.intro | omega | (simp only [InK, ne_eq, and_true, true_and]; omega) | trivial), ?_⟩
     refine ⟨_, Weak.refl _ _, X, g, stamp, clk, n + 1, hg, by omega, ?_⟩
     simp only [tb, Nat.reduceEqDiff, Nat.succ_ne_self, Nat.zero_ne_one, Nat.one_ne_zero, decide_false, decide_true, Bool.or_false, Bool.or_true, Bool.false_or, up_true, up_false, selM_x, selM_y, selM_z, selF_t, selF_f, hbit]
    ·rintro m st ⟨X, g, stamp, clk, n, hg, hn, rfl⟩ hcl hbit hd
     unfold opH
     rw [guardVC_none]
     simp only [hbit, up_true, up_false, selM_x, selM_y, selM_z, selF_t, selF_f]
     refine .inl ?_
     (simp -dsimp only [↓RP, RQ, implies_true, forall_const, Nat.reduceMul, reduceIte, reduceCtorEq, Nat.reduceAdd, Nat.reduceEqDiff, Nat.reduceLT, Nat.reduceLeDiff, ↓RW, NB, hr0, hlen, Nat.add_zero, Nat.add_assoc, self_F1, self_F2, effK_ret, effK_normal, TYm, TYn, TYd, QF, hk, gsh, dk22, fsv, B, I, by2, RZ, eq_self, TY])
     try refine ⟨by (first | exact True.intro | omega | (simp only [InK, ne_eq, and_true, true_and]; omega) | trivial), ?_⟩
     refine ⟨_, Weak.refl _ _, X, g, stamp, clk, n + 1, hg, by omega, ?_⟩
     simp only [tb, Nat.reduceEqDiff, Nat.succ_ne_self, Nat.zero_ne_one, Nat.one_ne_zero, decide_false, decide_true, Bool.or_false, Bool.or_true, Bool.false_or, up_true, up_false, selM_x, selM_y, selM_z, selF_t, selF_f, hbit]
    ·rintro m st ⟨X, g, stamp, clk, n, hg, hn, rfl⟩ hcl hbit hd
     have q1 := hd 1 (by decide) (by decide)
     unfold opH
     rw [guardVC_none]
     simp only [q1, hbit, up_true, up_false, selM_x, selM_y, selM_z, selF_t, selF_f]
     refine .inl ?_
     (simp -dsimp only [↓RP, RQ, implies_true, forall_const, Nat.reduceMul, reduceIte, reduceCtorEq, Nat.reduceAdd, Nat.reduceEqDiff, Nat.reduceLT, Nat.reduceLeDiff, ↓RW, NB, hr0, hlen, Nat.add_zero, Nat.add_assoc, self_F1, self_F2, effK_ret, effK_normal, TYm, TYn, TYd, QF, hk, gsh, dk22, fsv, B, I, by2, RZ, eq_self, TY])
     try refine ⟨by (first | exact True.intro | omega | (simp only [InK, ne_eq, and_true, true_and]; omega) | trivial), ?_⟩
     refine ⟨_, Weak.refl _ _, X, g, stamp, clk, n + 1, hg, by omega, ?_⟩
     simp only [tb, Nat.reduceEqDiff, Nat.succ_ne_self, Nat.zero_ne_one, Nat.one_ne_zero, decide_false, decide_true, Bool.or_false, Bool.or_true, Bool.false_or, up_true, up_false, selM_x, selM_y, selM_z, selF_t, selF_f, q1, hbit]
    ·rintro m st ⟨X, g, stamp, clk, n, hg, hn, rfl⟩ hcl hbit hd
     unfold opH
     rw [guardVC_none]
     simp only [hbit, up_true, up_false, selM_x, selM_y, selM_z, selF_t, selF_f]
     refine .inl ?_
     (simp -dsimp only [↓RP, RQ, implies_true, forall_const, Nat.reduceMul, reduceIte, reduceCtorEq, Nat.reduceAdd, Nat.reduceEqDiff, Nat.reduceLT, Nat.reduceLeDiff, ↓RW, NB, hr0, hlen, Nat.add_zero, Nat.add_assoc, self_F1, self_F2, effK_ret, effK_normal, TYm, TYn, TYd, QF, hk, gsh, dk22, fsv, B, I, by2, RZ, eq_self, TY])
     try refine ⟨by (first | exact True.intro | omega | (simp only [InK, ne_eq, and_true, true_and]; omega) | trivial), ?_⟩
     refine ⟨_, Weak.refl _ _, X, g, stamp, clk, n + 1, hg, by omega, ?_⟩
     simp only [tb, Nat.reduceEqDiff, Nat.succ_ne_self, Nat.zero_ne_one, Nat.one_ne_zero, decide_false, decide_true, Bool.or_false, Bool.or_true, Bool.false_or, up_true, up_false, selM_x, selM_y, selM_z, selF_t, selF_f, hbit]
    ·rintro m st ⟨X, g, stamp, clk, n, hg, hn, rfl⟩ hcl hbit hd
     have q3 := hd 3 (by decide) (by decide)
     unfold opH
     rw [guardVC_none]
     simp only [q3, hbit, up_true, up_false, selM_x, selM_y, selM_z, selF_t, selF_f]
     refine .inl ?_
     (simp -dsimp only [↓RP, RQ, implies_true, forall_const, Nat.reduceMul, reduceIte, reduceCtorEq, Nat.reduceAdd, Nat.reduceEqDiff, Nat.reduceLT, Nat.reduceLeDiff, ↓RW, NB, hr0, hlen, Nat.add_zero, Nat.add_assoc, self_F1, self_F2, effK_ret, effK_normal, TYm, TYn, TYd, QF, hk, gsh, dk22, fsv, B, I, by2, RZ, eq_self, TY])
     try refine ⟨by (first | exact True.intro | omega | (simp only [InK, ne_eq, and_true, true_and]; omega) | trivial), ?_⟩
     refine ⟨_, Weak.refl _ _, X, g, stamp, clk, n + 1, hg, by omega, ?_⟩
     simp only [tb, Nat.reduceEqDiff, Nat.succ_ne_self, Nat.zero_ne_one, Nat.one_ne_zero, decide_false, decide_true, Bool.or_false, Bool.or_true, Bool.false_or, up_true, up_false, selM_x, selM_y, selM_z, selF_t, selF_f, q3, hbit]
    ·rintro m st ⟨X, g, stamp, clk, n, hg, hn, rfl⟩ hcl hbit hd
     have q4 := hd 4 (by decide) (by decide)
     unfold opH
     rw [guardVC_none]
     simp only [q4, hbit, up_true, up_false, selM_x, selM_y, selM_z, selF_t, selF_f]
     refine .inl ?_
     (simp -dsimp only [↓RP, RQ, implies_true, forall_const, Nat.reduceMul, reduceIte, reduceCtorEq, Nat.reduceAdd, Nat.reduceEqDiff, Nat.reduceLT, Nat.reduceLeDiff, ↓RW, NB, hr0, hlen, Nat.add_zero, Nat.add_assoc, self_F1, self_F2, effK_ret, effK_normal, TYm, TYn, TYd, QF, hk, gsh, dk22, fsv, B, I, by2, RZ, eq_self, TY])
     try refine ⟨by (first | exact True.intro | omega | (simp only [InK, ne_eq, and_true, true_and]; omega) | trivial), ?_⟩
     refine ⟨_, Weak.refl _ _, X, g, stamp, clk, n + 1, hg, by omega, ?_⟩
     simp only [tb, Nat.reduceEqDiff, Nat.succ_ne_self, Nat.zero_ne_one, Nat.one_ne_zero, decide_false, decide_true, Bool.or_false, Bool.or_true, Bool.false_or, up_true, up_false, selM_x, selM_y, selM_z, selF_t, selF_f, q4, hbit]
    ·rintro m st ⟨X, g, stamp, clk, n, hg, hn, rfl⟩ hcl hbit hd
     have q5 := hd 5 (by decide) (by decide)
     unfold opH
     rw [guardVC_none]
     simp only [q5, hbit, up_true, up_false, selM_x, selM_y, selM_z, selF_t, selF_f]
     refine .inl ?_
     (simp -dsimp only [↓RP, RQ, implies_true, forall_const, Nat.reduceMul, reduceIte, reduceCtorEq, Nat.reduceAdd, Nat.reduceEqDiff, Nat.reduceLT, Nat.reduceLeDiff, ↓RW, NB, hr0, hlen, Nat.add_zero, Nat.add_assoc, self_F1, self_F2, effK_ret, effK_normal, TYm, TYn, TYd, QF, hk, gsh, dk22, fsv, B, I, by2, RZ, eq_self, TY])
     try refine ⟨by (first | exact True.intro | omega | (simp only [InK, ne_eq, and_true, true_and]; omega) | trivial), ?_⟩
     refine ⟨_, Weak.refl _ _, X, g, stamp, clk, n + 1, hg, by omega, ?_⟩
     simp only [tb, Nat.reduceEqDiff, Nat.succ_ne_self, Nat.zero_ne_one, Nat.one_ne_zero, decide_false, decide_true, Bool.or_false, Bool.or_true, Bool.false_or, up_true, up_false, selM_x, selM_y, selM_z, selF_t, selF_f, q5, hbit]
    ·rintro m st ⟨X, g, stamp, clk, n, hg, hn, rfl⟩ hcl hbit hd
     unfold opH
     rw [guardVC_none]
     simp only [hbit, up_true, up_false, selM_x, selM_y, selM_z, selF_t, selF_f]
     refine .inl ?_
     (simp -dsimp only [↓RP, RQ, implies_true, forall_const, Nat.reduceMul, reduceIte, reduceCtorEq, Nat.reduceAdd, Nat.reduceEqDiff, Nat.reduceLT, Nat.reduceLeDiff, ↓RW, NB, hr0, hlen, Nat.add_zero, Nat.add_assoc, self_F1, self_F2, effK_ret, effK_normal, TYm, TYn, TYd, QF, hk, gsh, dk22, fsv, B, I, by2, RZ, eq_self, TY])
     try refine ⟨by (first | exact True.intro | omega | (simp only [InK, ne_eq, and_true, true_and]; omega) | trivial), ?_⟩
     refine ⟨_, Weak.refl _ _, X, g, stamp, clk, n + 1, hg, by omega, ?_⟩
     simp only [tb, Nat.reduceEqDiff, Nat.succ_ne_self, Nat.zero_ne_one, Nat.one_ne_zero, decide_false, decide_true, Bool.or_false, Bool.or_true, Bool.false_or, up_true, up_false, selM_x, selM_y, selM_z, selF_t, selF_f, hbit]
    ·rintro m st ⟨X, g, stamp, clk, n, hg, hn, rfl⟩ hcl hbit hd
     unfold opH
     rw [guardVC_none]
     simp only [hbit, up_true, up_false, selM_x, selM_y, selM_z, selF_t, selF_f]
     refine .inl ?_
     (simp -dsimp only [↓RP, RQ, implies_true, forall_const, Nat.reduceMul, reduceIte, reduceCtorEq, Nat.reduceAdd, Nat.reduceEqDiff, Nat.reduceLT, Nat.reduceLeDiff, ↓RW, NB, hr0, hlen, Nat.add_zero, Nat.add_assoc, self_F1, self_F2, effK_ret, effK_normal, TYm, TYn, TYd, QF, hk, gsh, dk22, fsv, B, I, by2, RZ, eq_self, TY])
     try refine ⟨by (first | exact True.intro | omega | (simp only [InK, ne_eq, and_true, true_and]; omega) | trivial), ?_⟩
     refine ⟨_, Weak.refl _ _, X, g, stamp, clk, n + 1, hg, by omega, ?_⟩
     simp only [tb, Nat.reduceEqDiff, Nat.succ_ne_self, Nat.zero_ne_one, Nat.one_ne_zero, decide_false, decide_true, Bool.or_false, Bool.or_true, Bool.false_or, up_true, up_false, selM_x, selM_y, selM_z, selF_t, selF_f, hbit]
    ·rintro m st ⟨X, g, stamp, clk, n, hg, hn, rfl⟩ hcl hbit hd
     unfold opH
     rw [guardVC_none]
     simp only [hbit, up_true, up_false, selM_x, selM_y, selM_z, selF_t, selF_f]
     refine .inl ?_
     (simp -dsimp only [↓RP, RQ, implies_true, forall_const, Nat.reduceMul, reduceIte, reduceCtorEq, Nat.reduceAdd, Nat.reduceEqDiff, Nat.reduceLT, Nat.reduceLeDiff, ↓RW, NB, hr0, hlen, Nat.add_zero, Nat.add_assoc, self_F1, self_F2, effK_ret, effK_normal, TYm, TYn, TYd, QF, hk, gsh, dk22, fsv, B, I, by2, RZ, eq_self, TY])
     try refine ⟨by (first | exact True.intro | omega | (simp only [InK, ne_eq, and_true, true_and]; omega) | trivial), ?_⟩
     refine ⟨_, Weak.refl _ _, X, g, stamp, clk, n + 1, hg, by omega, ?_⟩
     simp only [tb, Nat.reduceEqDiff, Nat.succ_ne_self, Nat.zero_ne_one, Nat.one_ne_zero, decide_false, decide_true, Bool.or_false, Bool.or_true, Bool.false_or, up_true, up_false, selM_x, selM_y, selM_z, selF_t, selF_f, hbit]
    ·rintro m st ⟨X, g, stamp, clk, n, hg, hn, rfl⟩ hcl hbit hd
     have q0 := hd 0 (by decide) (by decide)
     unfold opH
     rw [guardVC_none]
     simp only [q0, hbit, up_true, up_false, selM_x, selM_y, selM_z, selF_t, selF_f]
     refine .inl ?_
     (simp -dsimp only [↓RP, RQ, implies_true, forall_const, Nat.reduceMul, reduceIte, reduceCtorEq, Nat.reduceAdd, Nat.reduceEqDiff, Nat.reduceLT, Nat.reduceLeDiff, ↓RW, NB, hr0, hlen, Nat.add_zero, Nat.add_assoc, self_F1, self_F2, effK_ret, effK_normal, TYm, TYn, TYd, QF, hk, gsh, dk22, fsv, B, I, by2, RZ, eq_self, TY])
     try refine ⟨by (first | exact True.intro | omega | (simp only [InK, ne_eq, and_true, true_and]; omega) | trivial), ?_⟩
     refine ⟨_, Weak.refl _ _, X, g, stamp, clk, n + 1, hg, by omega, ?_⟩
     simp only [tb, Nat.reduceEqDiff, Nat.succ_ne_self, Nat.zero_ne_one, Nat.one_ne_zero, decide_false, decide_true, Bool.or_false, Bool.or_true, Bool.false_or, up_true, up_false, selM_x, selM_y, selM_z, selF_t, selF_f, q0, hbit]
    ·rintro m st ⟨X, g, stamp, clk, n, hg, hn, rfl⟩ hcl hbit hd
     have q10 := hd 10 (by decide) (by decide)
     unfold opH
     rw [guardVC_none]
     simp only [q10, hbit, up_true, up_false, selM_x, selM_y, selM_z, selF_t, selF_f]
     refine .inl ?_
     (simp -dsimp only [↓RP, RQ, implies_true, forall_const, Nat.reduceMul, reduceIte, reduceCtorEq, Nat.reduceAdd, Nat.reduceEqDiff, Nat.reduceLT, Nat.reduceLeDiff, ↓RW, NB, hr0, hlen, Nat.add_zero, Nat.add_assoc, self_F1, self_F2, effK_ret, effK_normal, TYm, TYn, TYd, QF, hk, gsh, dk22, fsv, B, I, by2, RZ, eq_self, TY])
     try refine ⟨by (first | exact True.intro | omega | (simp only [InK, ne_eq, and_true, true_and]; omega) | trivial), ?_⟩
     refine ⟨_, Weak.refl _ _, X, g, stamp, clk, n + 1, hg, by omega, ?_⟩
     simp only [tb, Nat.reduceEqDiff, Nat.succ_ne_self, Nat.zero_ne_one, Nat.one_ne_zero, decide_false, decide_true, Bool.or_false, Bool.or_true, Bool.false_or, up_true, up_false, selM_x, selM_y, selM_z, selF_t, selF_f, q10, hbit]
    ·rintro m st ⟨X, g, stamp, clk, n, hg, hn, rfl⟩ hcl hbit hd
     have q11 := hd 11 (by decide) (by decide)
     have q2 := hd 2 (by decide) (by decide)
     unfold opH
     rw [guardVC_none]
     simp only [q11, q2, hbit, up_true, up_false, selM_x, selM_y, selM_z, selF_t, selF_f]
     refine .inl ?_
     (simp -dsimp only [↓RP, RQ, implies_true, forall_const, Nat.reduceMul, reduceIte, reduceCtorEq, Nat.reduceAdd, Nat.reduceEqDiff, Nat.reduceLT, Nat.reduceLeDiff, ↓RW, NB, hr0, hlen, Nat.add_zero, Nat.add_assoc, self_F1, self_F2, effK_ret, effK_normal, TYm, TYn, TYd, QF, hk, gsh, dk22, fsv, B, I, by2, RZ, eq_self, TY])
     try refine ⟨by (first | exact True.intro | omega | (simp only [InK, ne_eq, and_true, true_and]; omega) | trivial), ?_⟩
     refine ⟨_, Weak.refl _ _, X, g, stamp, clk, n + 1, hg, by omega, ?_⟩
     simp only [tb, Nat.reduceEqDiff, Nat.succ_ne_self, Nat.zero_ne_one, Nat.one_ne_zero, decide_false, decide_true, Bool.or_false, Bool.or_true, Bool.false_or, up_true, up_false, selM_x, selM_y, selM_z, selF_t, selF_f, q11, q2, hbit]
    ·rintro m st ⟨X, g, stamp, clk, n, hg, hn, rfl⟩ hcl hbit hd
     have q12 := hd 12 (by decide) (by decide)
     have q8 := hd 8 (by decide) (by decide)
     unfold opH
     rw [guardVC_none]
     simp only [q12, q8, hbit, up_true, up_false, selM_x, selM_y, selM_z, selF_t, selF_f]
     refine .inl ?_
     (simp -dsimp only [↓RP, RQ, implies_true, forall_const, Nat.reduceMul, reduceIte, reduceCtorEq, Nat.reduceAdd, Nat.reduceEqDiff, Nat.reduceLT, Nat.reduceLeDiff, ↓RW, NB, hr0, hlen, Nat.add_zero, Nat.add_assoc, self_F1, self_F2, effK_ret, effK_normal, TYm, TYn, TYd, QF, hk, gsh, dk22, fsv, B, I, by2, RZ, eq_self, TY])
     try refine ⟨by (first | exact True.intro | omega | (simp only [InK, ne_eq, and_true, true_and]; omega) | trivial), ?_⟩
     refine ⟨_, Weak.refl _ _, X, g, stamp, clk, n + 1, hg, by omega, ?_⟩
     simp only [tb, Nat.reduceEqDiff, Nat.succ_ne_self, Nat.zero_ne_one, Nat.one_ne_zero, decide_false, decide_true, Bool.or_false, Bool.or_true, Bool.false_or, up_true, up_false, selM_x, selM_y, selM_z, selF_t, selF_f, q12, q8, hbit]
    ·rintro m st ⟨X, g, stamp, clk, n, hg, hn, rfl⟩ hcl hbit hd
     have q6 := hd 6 (by decide) (by decide)
     have q7 := hd 7 (by decide) (by decide)
     have q16 : m.testBit 16 = false := by
      cases h : m.testBit 16 with
      | false => rfl
      | true => have := hcl 16 14 (by decide) h; rw [hbit] at this; cases this
     have q15 : m.testBit 15 = false := by
      cases h : m.testBit 15 with
      | false => rfl
      | true => have := hcl 15 14 (by decide) h; rw [hbit] at this; cases this
     unfold opH
     rw [guardVC_none]
     simp only [q6, q7, q16, q15, hbit, up_true, up_false, selM_x, selM_y, selM_z, selF_t, selF_f]
     refine .inr ⟨rfl, .inl ?_⟩
     by_cases hdm : bDom M.q i (kv k false) = true
     ·refine mEntryOld_vc (mid := id + 3) (v := kv k false) (by (simp -dsimp only [↓RP, RQ, implies_true, forall_const, Nat.reduceMul, reduceIte, reduceCtorEq, Nat.reduceAdd, Nat.reduceEqDiff, Nat.reduceLT, Nat.reduceLeDiff, ↓RW, NB, hr0, hlen, Nat.add_zero, Nat.add_assoc, self_F1, self_F2, effK_ret, effK_normal, TYm, TYn, TYd, QF, hk, gsh, dk22, fsv, B, I, by2, RZ, eq_self, TY])) (by (simp -dsimp only [↓RP, RQ, implies_true, forall_const, Nat.reduceMul, reduceIte, reduceCtorEq, Nat.reduceAdd, Nat.reduceEqDiff, Nat.reduceLT, Nat.reduceLeDiff, ↓RW, NB, hr0, hlen, Nat.add_zero, Nat.add_assoc, self_F1, self_F2, effK_ret, effK_normal, TYm, TYn, TYd, QF, hk, gsh, dk22, fsv, B, I, by2, RZ, eq_self, TY]); rfl) mi116 (by (simp -dsimp only [↓RP, RQ, implies_true, forall_const, Nat.reduceMul, reduceIte, reduceCtorEq, Nat.reduceAdd, Nat.reduceEqDiff, Nat.reduceLT, Nat.reduceLeDiff, ↓RW, NB, hr0, hlen, Nat.add_zero, Nat.add_assoc, self_F1, self_F2, effK_ret, effK_normal, TYm, TYn, TYd, QF, hk, gsh, dk22, fsv, B, I, by2, RZ, eq_self, TY]); rfl) rfl hdm fun stamp' clk' => ?_
      (simp -dsimp only [↓RP, RQ, implies_true, forall_const, Nat.reduceMul, reduceIte, reduceCtorEq, Nat.reduceAdd, Nat.reduceEqDiff, Nat.reduceLT, Nat.reduceLeDiff, ↓RW, NB, hr0, hlen, Nat.add_zero, Nat.add_assoc, self_F1, self_F2, effK_ret, effK_normal, TYm, TYn, TYd, QF, hk, gsh, dk22, fsv, B, I, by2, RZ, eq_self, TY])
      refine ⟨_, Weak.refl _ _, bGet M.q i (kv k false), bGet M.q i, stamp', clk', n, hg0, hn, ?_⟩
      rw [hold hdm]
      simp only [tb, Nat.reduceEqDiff, Nat.succ_ne_self, Nat.zero_ne_one, Nat.one_ne_zero, decide_false, decide_true, Bool.or_false, Bool.or_true, Bool.false_or, up_true, up_false, selM_x, selM_y, selM_z, selF_t, selF_f, q6, q7, q16, q15, hbit]
     ·refine mEntry_vc (mid := id + 3) (v := kv k false) (by (simp -dsimp only [↓RP, RQ, implies_true, forall_const, Nat.reduceMul, reduceIte, reduceCtorEq, Nat.reduceAdd, Nat.reduceEqDiff, Nat.reduceLT, Nat.reduceLeDiff, ↓RW, NB, hr0, hlen, Nat.add_zero, Nat.add_assoc, self_F1, self_F2, effK_ret, effK_normal, TYm, TYn, TYd, QF, hk, gsh, dk22, fsv, B, I, by2, RZ, eq_self, TY])) (by (simp -dsimp only [↓RP, RQ, implies_true, forall_const, Nat.reduceMul, reduceIte, reduceCtorEq, Nat.reduceAdd, Nat.reduceEqDiff, Nat.reduceLT, Nat.reduceLeDiff, ↓RW, NB, hr0, hlen, Nat.add_zero, Nat.add_assoc, self_F1, self_F2, effK_ret, effK_normal, TYm, TYn, TYd, QF, hk, gsh, dk22, fsv, B, I, by2, RZ, eq_self, TY]); rfl) mi116 (by (simp -dsimp only [↓RP, RQ, implies_true, forall_const, Nat.reduceMul, reduceIte, reduceCtorEq, Nat.reduceAdd, Nat.reduceEqDiff, Nat.reduceLT, Nat.reduceLeDiff, ↓RW, NB, hr0, hlen, Nat.add_zero, Nat.add_assoc, self_F1, self_F2, effK_ret, effK_normal, TYm, TYn, TYd, QF, hk, gsh, dk22, fsv, B, I, by2, RZ, eq_self, TY]); rfl) rfl (by simpa using hdm) fun stamp' clk' => ?_
      (simp -dsimp only [↓RP, RQ, implies_true, forall_const, Nat.reduceMul, reduceIte, reduceCtorEq, Nat.reduceAdd, Nat.reduceEqDiff, Nat.reduceLT, Nat.reduceLeDiff, ↓RW, NB, hr0, hlen, Nat.add_zero, Nat.add_assoc, self_F1, self_F2, effK_ret, effK_normal, TYm, TYn, TYd, QF, hk, gsh, dk22, fsv, B, I, by2, RZ, eq_self, TY])
      refine ⟨_, Weak.refl _ _, .val (.int .i64 0), putGet (bGet M.q i) (kv k false) (.val (.int .i64 0)), stamp', clk', n, by rw [put_put]; exact hg0, hn, ?_⟩
      rw [hput]
      simp only [tb, Nat.reduceEqDiff, Nat.succ_ne_self, Nat.zero_ne_one, Nat.one_ne_zero, decide_false, decide_true, Bool.or_false, Bool.or_true, Bool.false_or, up_true, up_false, selM_x, selM_y, selM_z, selF_t, selF_f, q6, q7, q16, q15, hbit]
    ·rintro m st ⟨X, g, stamp, clk, n, hg, hn, rfl⟩ hcl hbit hd
     have q14 := hd 14 (by decide) (by decide)
     unfold opH
     rw [guardVC_none]
     simp only [q14, hbit, up_true, up_false, selM_x, selM_y, selM_z, selF_t, selF_f]
     refine .inl ?_
     (simp -dsimp only [↓RP, RQ, implies_true, forall_const, Nat.reduceMul, reduceIte, reduceCtorEq, Nat.reduceAdd, Nat.reduceEqDiff, Nat.reduceLT, Nat.reduceLeDiff, ↓RW, NB, hr0, hlen, Nat.add_zero, Nat.add_assoc, self_F1, self_F2, effK_ret, effK_normal, TYm, TYn, TYd, QF, hk, gsh, dk22, fsv, B, I, by2, RZ, eq_self, TY])
     try refine ⟨by (first | exact True.intro | omega | (simp only [InK, ne_eq, and_true, true_and]; omega) | trivial), ?_⟩
     refine ⟨_, Weak.refl _ _, X, g, stamp, clk, n + 1, hg, by omega, ?_⟩
     simp only [tb, Nat.reduceEqDiff, Nat.succ_ne_self, Nat.zero_ne_one, Nat.one_ne_zero, decide_false, decide_true, Bool.or_false, Bool.or_true, Bool.false_or, up_true, up_false, selM_x, selM_y, selM_z, selF_t, selF_f, q14, hbit]
    ·rintro m st ⟨X, g, stamp, clk, n, hg, hn, rfl⟩ hcl hbit hd
     have q6 := hd 6 (by decide) (by decide)
     have q15 := hd 15 (by decide) (by decide)
     have q9 := hd 9 (by decide) (by decide)
     have q14 := hd 14 (by decide) (by decide)
     unfold opH
     rw [guardVC_none]
     simp only [q6, q15, q9, q14, hbit, up_true, up_false, selM_x, selM_y, selM_z, selF_t, selF_f]
     refine .inr ⟨rfl, .inr ?_⟩
     refine mStore_vc (mid := id + 3) (v := kv k false) (dom := bDom M.q (i + 1)) (get := g) (stamp := stamp) (clk := clk) keyInfo120 rfl (by (simp -dsimp only [↓RP, RQ, implies_true, forall_const, Nat.reduceMul, reduceIte, reduceCtorEq, Nat.reduceAdd, Nat.reduceEqDiff, Nat.reduceLT, Nat.reduceLeDiff, ↓RW, NB, hr0, hlen, Nat.add_zero, Nat.add_assoc, self_F1, self_F2, effK_ret, effK_normal, TYm, TYn, TYd, QF, hk, gsh, dk22, fsv, B, I, by2, RZ, eq_self, TY])) (by (simp -dsimp only [↓RP, RQ, implies_true, forall_const, Nat.reduceMul, reduceIte, reduceCtorEq, Nat.reduceAdd, Nat.reduceEqDiff, Nat.reduceLT, Nat.reduceLeDiff, ↓RW, NB, hr0, hlen, Nat.add_zero, Nat.add_assoc, self_F1, self_F2, effK_ret, effK_normal, TYm, TYn, TYd, QF, hk, gsh, dk22, fsv, B, I, by2, RZ, eq_self, TY])) (by (simp -dsimp only [↓RP, RQ, implies_true, forall_const, Nat.reduceMul, reduceIte, reduceCtorEq, Nat.reduceAdd, Nat.reduceEqDiff, Nat.reduceLT, Nat.reduceLeDiff, ↓RW, NB, hr0, hlen, Nat.add_zero, Nat.add_assoc, self_F1, self_F2, effK_ret, effK_normal, TYm, TYn, TYd, QF, hk, gsh, dk22, fsv, B, I, by2, RZ, eq_self, TY])) hdd ?_
     (simp -dsimp only [↓RP, RQ, implies_true, forall_const, Nat.reduceMul, reduceIte, reduceCtorEq, Nat.reduceAdd, Nat.reduceEqDiff, Nat.reduceLT, Nat.reduceLeDiff, ↓RW, NB, hr0, hlen, Nat.add_zero, Nat.add_assoc, self_F1, self_F2, effK_ret, effK_normal, TYm, TYn, TYd, QF, hk, gsh, dk22, fsv, B, I, by2, RZ, eq_self, TY])
     refine ⟨_, Weak.refl _ _, X, g, stamp, clk, n, hg, hn, ?_⟩
     rw [hg]
     simp only [tb, Nat.reduceEqDiff, Nat.succ_ne_self, Nat.zero_ne_one, Nat.one_ne_zero, decide_false, decide_true, Bool.or_false, Bool.or_true, Bool.false_or, up_true, up_false, selM_x, selM_y, selM_z, selF_t, selF_f, q6, q15, q9, q14, hbit]
    ·rintro m st' ⟨X, g, stamp, clk, n, hg, hn, rfl⟩ hall
     simp only [hall 0 (by decide), hall 1 (by decide), hall 2 (by decide), hall 3 (by decide), hall 4 (by decide), hall 5 (by decide), hall 6 (by decide), hall 7 (by decide), hall 8 (by decide), hall 9 (by decide), hall 10 (by decide), hall 11 (by decide), hall 12 (by decide), hall 13 (by decide), hall 14 (by decide), hall 15 (by decide), hall 16 (by decide), up_true, selM_z, selF_t]
     have ⟨e1, e2⟩ := hit_hi M i hk hst.2 hl hb
     rw [← e1, ← e2]
     (repeat' (first | with_reducible refine splitVC_d (fun _ => ?_) (fun _ => ?_) | with_reducible refine splitVC (fun _ => ?_) (fun _ => ?_) | ((with_reducible refine And.intro ?_ ?_); focus (first | exact True.intro | omega | (simp only [InK, ne_eq, and_true, true_and]; omega) | trivial)) | (simp -dsimp only [↓RP, RQ, implies_true, forall_const, Nat.reduceMul, reduceIte, reduceCtorEq, Nat.reduceAdd, Nat.reduceEqDiff, Nat.reduceLT, Nat.reduceLeDiff, ↓RW, NB, hr0, hlen, Nat.add_zero, Nat.add_assoc, self_F1, self_F2, effK_ret, effK_normal, TYm, TYn, TYd, QF, fsv, B, I, by2, RZ, eq_self, TY, Try.results85])))
     refine ⟨(i + 1, n + 2), ⟨by simp only []; omega, by simp only []; omega⟩, by simp only []; omega, weakS ?_ ?_⟩
     ·simp [SubFr, Go.Sx.look]
     ·exact subDesk hr (by omega) (by omega) (by omega)
   ·have ⟨e1, e2, e3⟩ := hno (fun h => absurd (hbet.1 h) (by assumption))
    refine ⟨(i + 1, nid + 55), ⟨by simp only []; omega, by simp only []; omega⟩, by simp only []; omega, weakS ?_ ?_⟩
    ·simp [SubFr, Go.Sx.look]
    ·rw [e1, e2, e3]
     exact subDesk hr (by omega) (by omega) (by omega)
  ·rw [hl, if_pos rfl] at hbet
   (repeat' (first | with_reducible refine splitVC_d (fun _ => ?_) (fun _ => ?_) | with_reducible refine splitVC (fun _ => ?_) (fun _ => ?_) | ((with_reducible refine And.intro ?_ ?_); focus (first | exact True.intro | omega | (simp only [InK, ne_eq, and_true, true_and]; omega) | trivial)) | (simp -dsimp only [↓RP, RQ, implies_true, forall_const, Nat.reduceMul, reduceIte, reduceCtorEq, Nat.reduceAdd, Nat.reduceEqDiff, Nat.reduceLT, Nat.reduceLeDiff, hk, hl, ↓RW, NB, hr0, hlen, Nat.add_zero, Nat.add_assoc, self_F1, self_F2, effK_ret, effK_normal, TYm, TYn, TYd, QF, fsv, B, I, by2, RZ, eq_self, TY, Try.results85])))
   all_goals first | (exfalso; omega) | skip
   refine callVC kx (by (simp -dsimp only [↓RP, RQ, implies_true, forall_const, Nat.reduceMul, reduceIte, reduceCtorEq, Nat.reduceAdd, Nat.reduceEqDiff, Nat.reduceLT, Nat.reduceLeDiff, Go.Od.ints, I]); all_goals (try simp)) (by (simp -dsimp only [↓RP, RQ, implies_true, forall_const, Nat.reduceMul, reduceIte, reduceCtorEq, Nat.reduceAdd, Nat.reduceEqDiff, Nat.reduceLT, Nat.reduceLeDiff, fsv, I])) ?_
   (repeat' (first | with_reducible refine splitVC_d (fun _ => ?_) (fun _ => ?_) | with_reducible refine splitVC (fun _ => ?_) (fun _ => ?_) | ((with_reducible refine And.intro ?_ ?_); focus (first | exact True.intro | omega | (simp only [InK, ne_eq, and_true, true_and]; omega) | trivial)) | (simp -dsimp only [↓RP, RQ, implies_true, forall_const, Nat.reduceMul, reduceIte, reduceCtorEq, Nat.reduceAdd, Nat.reduceEqDiff, Nat.reduceLT, Nat.reduceLeDiff, hk, hl, gl, ↓RW, NB, hr0, hlen, Nat.add_zero, Nat.add_assoc, self_F1, self_F2, effK_ret, effK_normal, TYm, TYn, TYd, QF, fsv, B, I, by2, RZ, eq_self, TY, Try.results85])))
   all_goals first | (exfalso; omega) | skip
   refine callVC (c66 (loS M.q k i) (xq (M.q i)) (by simp only [InK]; omega) (by simp only [InK]; omega)) (by (simp -dsimp only [↓RP, RQ, implies_true, forall_const, Nat.reduceMul, reduceIte, reduceCtorEq, Nat.reduceAdd, Nat.reduceEqDiff, Nat.reduceLT, Nat.reduceLeDiff, fsv, Go.Od.ints, I, B]); all_goals (try simp)) (by (simp -dsimp only [↓RP, RQ, implies_true, forall_const, Nat.reduceMul, reduceIte, reduceCtorEq, Nat.reduceAdd, Nat.reduceEqDiff, Nat.reduceLT, Nat.reduceLeDiff, B])) ?_
   (repeat' (first | with_reducible refine splitVC_d (fun _ => ?_) (fun _ => ?_) | with_reducible refine splitVC (fun _ => ?_) (fun _ => ?_) | ((with_reducible refine And.intro ?_ ?_); focus (first | exact True.intro | omega | (simp only [InK, ne_eq, and_true, true_and]; omega) | trivial)) | (simp -dsimp only [↓RP, RQ, implies_true, forall_const, Nat.reduceMul, reduceIte, reduceCtorEq, Nat.reduceAdd, Nat.reduceEqDiff, Nat.reduceLT, Nat.reduceLeDiff, hk, hl, gl, ↓RW, NB, hr0, hlen, Nat.add_zero, Nat.add_assoc, self_F1, self_F2, effK_ret, effK_normal, TYm, TYn, TYd, QF, fsv, B, I, by2, RZ, eq_self, TY, Try.results85])))
   all_goals first | (exfalso; omega) | skip
   ·rename_i hlt2
    have hb : better M.q i := hbet.2 (by assumption)
    have eput := dom_put hb
    have hg0 := get_put hb
    have hold := dom_old hb
    have hdd : bDom M.q (i + 1) (kv (M.q i).r (M.q i).l) = true := by rw [bDom_kv, by_hit hb]; rfl
    rw [hk, hl] at eput hg0 hold hdd
    have hput := eput
    have gsl := dk_setlo M.run M.m M.q (dlo M i) (dhi M i) (id + 3) k5 (xq (M.q i))
    have gsh := dk_sethi M.run M.m M.q (dlo M i) (dhi M i) (id + 3) k5 (xq (M.q i))
    have dk22 := fun lo hi => dk_22 M.run M.m M.q lo hi (id + 3)
    simp only [Nat.add_assoc] at gsl gsh
    refine rawRegion follows (fun m st => ∃ (X : SV) (g : Value → SV) (stamp : Value → Nat) (clk n : Nat), putGet g (kv k true) (.val (.int .i64 (i : Nat))) = bGet M.q (i + 1) ∧ nid + 38 ≤ n ∧ st = ⟨[(1, .ptr id 0), (2, .val (.pointer none)), (3, .ptr (id + 5) 0), (5, .val (.int .i64 i)), (6, .ptr (nid + 4) 0), (7, .ptr (nid + 20) 0), (8, .ptr (nid + 21) 0), (32, .arr false false M.m 4 (fun i j => qf (M.q i) j)), (33, .val (.int .i64 M.m)), (34, .val (.int .i64 i)), (66, Go.Sx.up (m.testBit 0) (.ptr (id + 5) 0)), (67, Go.Sx.up (m.testBit 1) (.ptr (nid + 4) 0)), (68, Go.Sx.up (m.testBit 2) (.val (.int .i64 k))), (69, Go.Sx.up (m.testBit 3) (.ptr (id + 5) 0)), (70, Go.Sx.up (m.testBit 4) (.ptr (id + 5) 0)), (71, Go.Sx.up (m.testBit 5) (.ptr (id + 5) 22)), (72, Go.Sx.up (m.testBit 6) (.mp (id + 3))), (73, Go.Sx.up (m.testBit 7) (.agg [.val (.int .i64 k), .val (.bool true)])), (74, Go.Sx.up (m.testBit 8) (.agg [.val (.int .i64 (xq (M.q i)).n), .val (.int .i64 (xq (M.q i)).d)])), (75, Go.Sx.up (m.testBit 9) (.val (.int .i64 i))), (76, Go.Sx.up (m.testBit 10) (.ptr (id + 5) 0)), (77, Go.Sx.up (m.testBit 11) (.ptr (id + 5) 2)), (78, Go.Sx.up (m.testBit 12) (.ptr (id + 5) (2 + k * 2))), (79, Go.Sx.up (m.testBit 14) (.tup [X, .val (.int .i64 (stamp (kv k true)))])), (80, Go.Sx.up (m.testBit 15) (.val (.int .i64 (stamp (kv k true)))))], (nid + 21, .cells 120 [.val (.int .i64 k), .val (.bool true)]) :: (nid + 20, .cells 23 [.val (.int .i64 (xq (M.q i)).n), .val (.int .i64 (xq (M.q i)).d)]) :: (nid + 4, .cells 74 [.val (.int .i64 k), .val (.int .i64 (M.q i).n), .val (.int .i64 (M.q i).d), .val (.bool true)]) :: (id + 5, dkB M (selF (m.testBit 13) (updF (dlo M i) k (xq (M.q i))) (dlo M i)) (dhi M i) (id + 3)) :: (id + 3, selM (m.testBit 14) (m.testBit 16) (mpB M i) (.mapS kfS (bDom M.q (i + 1)) g stamp clk) (mpB M (i + 1))) :: (id, boxB M) :: rest, n⟩) (ms := [0, 0, 2, 0, 8, 24, 56, 0, 0, 0, 1, 1025, 3455, 7551, 15871, 32255, 65535]) (by kernel_rfl) (by kernel_rfl) (weakS (by simp [SubFr, Go.Sx.look, Go.Sx.up]) (by simp only [Nat.zero_testBit, selM_x, selF_f]; exact SubHp.refl _)) ⟨.top, bGet M.q i, fun _ => 0, 0, _, hg0, Nat.le_refl _, rfl⟩ (stepsH_cons ?_ <| stepsH_cons ?_ <| stepsH_cons ?_ <| stepsH_cons ?_ <| stepsH_cons ?_ <| stepsH_cons ?_ <| stepsH_cons ?_ <| stepsH_cons ?_ <| stepsH_cons ?_ <| stepsH_cons ?_ <| stepsH_cons ?_ <| stepsH_cons ?_ <| stepsH_cons ?_ <| stepsH_cons ?_ <| stepsH_cons ?_ <| stepsH_cons ?_ <| stepsH_cons ?_ <| stepsH_nil) ?_
    ·rintro m st ⟨X, g, stamp, clk, n, hg, hn, rfl⟩ hcl hbit hd
     unfold opH
     rw [guardVC_none]
     simp only [hbit, up_true, up_false, selM_x, selM_y, selM_z, selF_t, selF_f]
     refine .inl ?_
     (simp -dsimp only [↓RP, RQ, implies_true, forall_const, Nat.reduceMul, reduceIte, reduceCtorEq, Nat.reduceAdd, Nat.reduceEqDiff, Nat.reduceLT, Nat.reduceLeDiff, ↓RW, NB, hr0, hlen, Nat.add_zero, Nat.add_assoc, self_F1, self_F2, effK_ret, effK_normal, TYm, TYn, TYd, QF, hk, gsl, dk22, fsv, B, I, by2, RZ, eq_self, TY])
     try refine ⟨by (first | exact True.intro | omega | (simp only [InK, ne_eq, and_true, true_and]; omega) | trivial), ?_⟩
     refine ⟨_, Weak.refl _ _, X, g, stamp, clk, n + 1, hg, by omega, ?_⟩
     simp only [tb, Nat.reduceEqDiff, Nat.succ_ne_self, Nat.zero_ne_one, Nat.one_ne_zero, decide_false, decide_true, Bool.or_false, Bool.or_true, Bool.false_or, up_true, up_false, selM_x, selM_y, selM_z, selF_t, selF_f, hbit]
    ·rintro m st ⟨X, g, stamp, clk, n, hg, hn, rfl⟩ hcl hbit hd
     unfold opH
     rw [guardVC_none]
     simp only [hbit, up_true, up_false, selM_x, selM_y, selM_z, selF_t, selF_f]
     refine .inl ?_
     (simp -dsimp only [↓RP, RQ, implies_true, forall_const, Nat.reduceMul, reduceIte, reduceCtorEq, Nat.reduceAdd, Nat.reduceEqDiff, Nat.reduceLT, Nat.reduceLeDiff, ↓RW, NB, hr0, hlen, Nat.add_zero, Nat.add_assoc, self_F1, self_F2, effK_ret, effK_normal, TYm, TYn, TYd, QF, hk, gsl, dk22, fsv, B, I, by2, RZ, eq_self, TY])
     try refine ⟨by (first | exact True.intro | omega | (simp only [InK, ne_eq, and_true, true_and]; omega) | trivial), ?_⟩
     refine ⟨_, Weak.refl _ _, X, g, stamp, clk, n + 1, hg, by omega, ?_⟩
     simp only [tb, Nat.reduceEqDiff, Nat.succ_ne_self, Nat.zero_ne_one, Nat.one_ne_zero, decide_false, decide_true, Bool.or_false, Bool.or_true, Bool.false_or, up_true, up_false, selM_x, selM_y, selM_z, selF_t, selF_f, hbit]
    ·rintro m st ⟨X, g, stamp, clk, n, hg, hn, rfl⟩ hcl hbit hd
     have q1 := hd 1 (by decide) (by decide)
     unfold opH
     rw [guardVC_none]
     simp only [q1, hbit, up_true, up_false, selM_x, selM_y, selM_z, selF_t, selF_f]
     refine .inl ?_
     (simp -dsimp only [↓RP, RQ, implies_true, forall_const, Nat.reduceMul, reduceIte, reduceCtorEq, Nat.reduceAdd, Nat.reduceEqDiff, Nat.reduceLT, Nat.reduceLeDiff, ↓RW, NB, hr0, hlen, Nat.add_zero, Nat.add_assoc, self_F1, self_F2, effK_ret, effK_normal, TYm, TYn, TYd, QF, hk, gsl, dk22, fsv, B, I, by2, RZ, eq_self, TY])
     try refine ⟨by (first | exact True.intro | omega | (simp only [InK, ne_eq, and_true, true_and]; omega) | trivial), ?_⟩
     refine ⟨_, Weak.refl _ _, X, g, stamp, clk, n + 1, hg, by omega, ?_⟩
     simp only [tb, Nat.reduceEqDiff, Nat.succ_ne_self, Nat.zero_ne_one, Nat.one_ne_zero, decide_false, decide_true, Bool.or_false, Bool.or_true, Bool.false_or, up_true, up_false, selM_x, selM_y, selM_z, selF_t, selF_f, q1, hbit]
    ·rintro m st ⟨X, g, stamp, clk, n, hg, hn, rfl⟩ hcl hbit hd
     unfold opH
     rw [guardVC_none]
     simp only [hbit, up_true, up_false, selM_x, selM_y, selM_z, selF_t, selF_f]
     refine .inl ?_
     (simp -dsimp only [↓RP, RQ, implies_true, forall_const, Nat.reduceMul, reduceIte, reduceCtorEq, Nat.reduceAdd, Nat.reduceEqDiff, Nat.reduceLT, Nat.reduceLeDiff, ↓RW, NB, hr0, hlen, Nat.add_zero, Nat.add_assoc, self_F1, self_F2, effK_ret, effK_normal, TYm, TYn, TYd, QF, hk, gsl, dk22, fsv, B, I, by2, RZ, eq_self, TY])
     try refine ⟨by (first | exact True.intro | omega | (simp only [InK, ne_eq, and_true, true_and]; omega) | trivial), ?_⟩
     refine ⟨_, Weak.refl _ _, X, g, stamp, clk, n + 1, hg, by omega, ?_⟩
     simp only [tb, Nat.reduceEqDiff, Nat.succ_ne_self, Nat.zero_ne_one, Nat.one_ne_zero, decide_false, decide_true, Bool.or_false, Bool.or_true, Bool.false_or, up_true, up_false, selM_x, selM_y, selM_z, selF_t, selF_f, hbit]
    ·rintro m st ⟨X, g, stamp, clk, n, hg, hn, rfl⟩ hcl hbit hd
     have q3 := hd 3 (by decide) (by decide)
     unfold opH
     rw [guardVC_none]
     simp only [q3, hbit, up_true, up_false, selM_x, selM_y, selM_z, selF_t, selF_f]
     refine .inl ?_
     (simp -dsimp only [↓RP, RQ, implies_true, forall_const, Nat.reduceMul, reduceIte, reduceCtorEq, Nat.reduceAdd, Nat.reduceEqDiff, Nat.reduceLT, Nat.reduceLeDiff, ↓RW, NB, hr0, hlen, Nat.add_zero, Nat.add_assoc, self_F1, self_F2, effK_ret, effK_normal, TYm, TYn, TYd, QF, hk, gsl, dk22, fsv, B, I, by2, RZ, eq_self, TY])
     try refine ⟨by (first | exact True.intro | omega | (simp only [InK, ne_eq, and_true, true_and]; omega) | trivial), ?_⟩
     refine ⟨_, Weak.refl _ _, X, g, stamp, clk, n + 1, hg, by omega, ?_⟩
     simp only [tb, Nat.reduceEqDiff, Nat.succ_ne_self, Nat.zero_ne_one, Nat.one_ne_zero, decide_false, decide_true, Bool.or_false, Bool.or_true, Bool.false_or, up_true, up_false, selM_x, selM_y, selM_z, selF_t, selF_f, q3, hbit]
    ·rintro m st ⟨X, g, stamp, clk, n, hg, hn, rfl⟩ hcl hbit hd
     have q4 := hd 4 (by decide) (by decide)
     unfold opH
     rw [guardVC_none]
     simp only [q4, hbit, up_true, up_false, selM_x, selM_y, selM_z, selF_t, selF_f]
     refine .inl ?_
     (simp -dsimp only [↓RP, RQ, implies_true, forall_const, Nat.reduceMul, reduceIte, reduceCtorEq, Nat.reduceAdd, Nat.reduceEqDiff, Nat.reduceLT, Nat.reduceLeDiff, ↓RW, NB, hr0, hlen, Nat.add_zero, Nat.add_assoc, self_F1, self_F2, effK_ret, effK_normal, TYm, TYn, TYd, QF, hk, gsl, dk22, fsv, B, I, by2, RZ, eq_self, TY])
     try refine ⟨by (first | exact True.intro | omega | (simp only [InK, ne_eq, and_true, true_and]; omega) | trivial), ?_⟩
     refine ⟨_, Weak.refl _ _, X, g, stamp, clk, n + 1, hg, by omega, ?_⟩
     simp only [tb, Nat.reduceEqDiff, Nat.succ_ne_self, Nat.zero_ne_one, Nat.one_ne_zero, decide_false, decide_true, Bool.or_false, Bool.or_true, Bool.false_or, up_true, up_false, selM_x, selM_y, selM_z, selF_t, selF_f, q4, hbit]
    ·rintro m st ⟨X, g, stamp, clk, n, hg, hn, rfl⟩ hcl hbit hd
     have q5 := hd 5 (by decide) (by decide)
     unfold opH
     rw [guardVC_none]
     simp only [q5, hbit, up_true, up_false, selM_x, selM_y, selM_z, selF_t, selF_f]
     refine .inl ?_
     (simp -dsimp only [↓RP, RQ, implies_true, forall_const, Nat.reduceMul, reduceIte, reduceCtorEq, Nat.reduceAdd, Nat.reduceEqDiff, Nat.reduceLT, Nat.reduceLeDiff, ↓RW, NB, hr0, hlen, Nat.add_zero, Nat.add_assoc, self_F1, self_F2, effK_ret, effK_normal, TYm, TYn, TYd, QF, hk, gsl, dk22, fsv, B, I, by2, RZ, eq_self, TY])
     try refine ⟨by (first | exact True.intro | omega | (simp only [InK, ne_eq, and_true, true_and]; omega) | trivial), ?_⟩
     refine ⟨_, Weak.refl _ _, X, g, stamp, clk, n + 1, hg, by omega, ?_⟩
     simp only [tb, Nat.reduceEqDiff, Nat.succ_ne_self, Nat.zero_ne_one, Nat.one_ne_zero, decide_false, decide_true, Bool.or_false, Bool.or_true, Bool.false_or, up_true, up_false, selM_x, selM_y, selM_z, selF_t, selF_f, q5, hbit]
    ·rintro m st ⟨X, g, stamp, clk, n, hg, hn, rfl⟩ hcl hbit hd
     unfold opH
     rw [guardVC_none]
     simp only [hbit, up_true, up_false, selM_x, selM_y, selM_z, selF_t, selF_f]
     refine .inl ?_
     (simp -dsimp only [↓RP, RQ, implies_true, forall_const, Nat.reduceMul, reduceIte, reduceCtorEq, Nat.reduceAdd, Nat.reduceEqDiff, Nat.reduceLT, Nat.reduceLeDiff, ↓RW, NB, hr0, hlen, Nat.add_zero, Nat.add_assoc, self_F1, self_F2, effK_ret, effK_normal, TYm, TYn, TYd, QF, hk, gsl, dk22, fsv, B, I, by2, RZ, eq_self, TY])
     try refine ⟨by (first | exact True.intro | omega | (simp only [InK, ne_eq, and_true, true_and]; omega) | trivial), ?_⟩
     refine ⟨_, Weak.refl _ _, X, g, stamp, clk, n + 1, hg, by omega, ?_⟩
     simp only [tb, Nat.reduceEqDiff, Nat.succ_ne_self, Nat.zero_ne_one, Nat.one_ne_zero, decide_false, decide_true, Bool.or_false, Bool.or_true, Bool.false_or, up_true, up_false, selM_x, selM_y, selM_z, selF_t, selF_f, hbit]
    ·rintro m st ⟨X, g, stamp, clk, n, hg, hn, rfl⟩ hcl hbit hd
     unfold opH
     rw [guardVC_none]
     simp only [hbit, up_true, up_false, selM_x, selM_y, selM_z, selF_t, selF_f]
     refine .inl ?_
     (simp -dsimp only [↓RP, RQ, implies_true, forall_const, Nat.reduceMul, reduceIte, reduceCtorEq, Nat.reduceAdd, Nat.reduceEqDiff, Nat.reduceLT, Nat.reduceLeDiff, ↓RW, NB, hr0, hlen, Nat.add_zero, Nat.add_assoc, self_F1, self_F2, effK_ret, effK_normal, TYm, TYn, TYd, QF, hk, gsl, dk22, fsv, B, I, by2, RZ, eq_self, TY])
     try refine ⟨by (first | exact True.intro | omega | (simp only [InK, ne_eq, and_true, true_and]; omega) | trivial), ?_⟩
     refine ⟨_, Weak.refl _ _, X, g, stamp, clk, n + 1, hg, by omega, ?_⟩
     simp only [tb, Nat.reduceEqDiff, Nat.succ_ne_self, Nat.zero_ne_one, Nat.one_ne_zero, decide_false, decide_true, Bool.or_false, Bool.or_true, Bool.false_or, up_true, up_false, selM_x, selM_y, selM_z, selF_t, selF_f, hbit]
    ·rintro m st ⟨X, g, stamp, clk, n, hg, hn, rfl⟩ hcl hbit hd
     unfold opH
     rw [guardVC_none]
     simp only [hbit, up_true, up_false, selM_x, selM_y, selM_z, selF_t, selF_f]
     refine .inl ?_
     (simp -dsimp only [↓RP, RQ, implies_true, forall_const, Nat.reduceMul, reduceIte, reduceCtorEq, Nat.reduceAdd, Nat.reduceEqDiff, Nat.reduceLT, Nat.reduceLeDiff, ↓RW, NB, hr0, hlen, Nat.add_zero, Nat.add_assoc, self_F1, self_F2, effK_ret, effK_normal, TYm, TYn, TYd, QF, hk, gsl, dk22, fsv, B, I, by2, RZ, eq_self, TY])
     try refine ⟨by (first | exact True.intro | omega | (simp only [InK, ne_eq, and_true, true_and]; omega) | trivial), ?_⟩
     refine ⟨_, Weak.refl _ _, X, g, stamp, clk, n + 1, hg, by omega, ?_⟩
     simp only [tb, Nat.reduceEqDiff, Nat.succ_ne_self, Nat.zero_ne_one, Nat.one_ne_zero, decide_false, decide_true, Bool.or_false, Bool.or_true, Bool.false_or, up_true, up_false, selM_x, selM_y, selM_z, selF_t, selF_f, hbit]
    ·rintro m st ⟨X, g, stamp, clk, n, hg, hn, rfl⟩ hcl hbit hd
     have q0 := hd 0 (by decide) (by decide)
     unfold opH
     rw [guardVC_none]
     simp only [q0, hbit, up_true, up_false, selM_x, selM_y, selM_z, selF_t, selF_f]
     refine .inl ?_
     (simp -dsimp only [↓RP, RQ, implies_true, forall_const, Nat.reduceMul, reduceIte, reduceCtorEq, Nat.reduceAdd, Nat.reduceEqDiff, Nat.reduceLT, Nat.reduceLeDiff, ↓RW, NB, hr0, hlen, Nat.add_zero, Nat.add_assoc, self_F1, self_F2, effK_ret, effK_normal, TYm, TYn, TYd, QF, hk, gsl, dk22, fsv, B, I, by2, RZ, eq_self, TY])
     try refine ⟨by (first | exact True.intro | omega | (simp only [InK, ne_eq, and_true, true_and]; omega) | trivial), ?_⟩
     refine ⟨_, Weak.refl _ _, X, g, stamp, clk, n + 1, hg, by omega, ?_⟩
     simp only [tb, Nat.reduceEqDiff, Nat.succ_ne_self, Nat.zero_ne_one, Nat.one_ne_zero, decide_false, decide_true, Bool.or_false, Bool.or_true, Bool.false_or, up_true, up_false, selM_x, selM_y, selM_z, selF_t, selF_f, q0, hbit]
    ·rintro m st ⟨X, g, stamp, clk, n, hg, hn, rfl⟩ hcl hbit hd
     have q10 := hd 10 (by decide) (by decide)
     unfold opH
     rw [guardVC_none]
     simp only [q10, hbit, up_true, up_false, selM_x, selM_y, selM_z, selF_t, selF_f]
     refine .inl ?_
     (simp -dsimp only [↓RP, RQ, implies_true, forall_const, Nat.reduceMul, reduceIte, reduceCtorEq, Nat.reduceAdd, Nat.reduceEqDiff, Nat.reduceLT, Nat.reduceLeDiff, ↓RW, NB, hr0, hlen, Nat.add_zero, Nat.add_assoc, self_F1, self_F2, effK_ret, effK_normal, TYm, TYn, TYd, QF, hk, gsl, dk22, fsv, B, I, by2, RZ, eq_self, TY])
     try refine ⟨by (first | exact True.intro | omega | (simp only [InK, ne_eq, and_true, true_and]; omega) | trivial), ?_⟩
     refine ⟨_, Weak.refl _ _, X, g, stamp, clk, n + 1, hg, by omega, ?_⟩
     simp only [tb, Nat.reduceEqDiff, Nat.succ_ne_self, Nat.zero_ne_one, Nat.one_ne_zero, decide_false, decide_true, Bool.or_false, Bool.or_true, Bool.false_or, up_true, up_false, selM_x, selM_y, selM_z, selF_t, selF_f, q10, hbit]
    ·rintro m st ⟨X, g, stamp, clk, n, hg, hn, rfl⟩ hcl hbit hd
     have q11 := hd 11 (by decide) (by decide)
     have q2 := hd 2 (by decide) (by decide)
     unfold opH
     rw [guardVC_none]
     simp only [q11, q2, hbit, up_true, up_false, selM_x, selM_y, selM_z, selF_t, selF_f]
     refine .inl ?_
     (simp -dsimp only [↓RP, RQ, implies_true, forall_const, Nat.reduceMul, reduceIte, reduceCtorEq, Nat.reduceAdd, Nat.reduceEqDiff, Nat.reduceLT, Nat.reduceLeDiff, ↓RW, NB, hr0, hlen, Nat.add_zero, Nat.add_assoc, self_F1, self_F2, effK_ret, effK_normal, TYm, TYn, TYd, QF, hk, gsl, dk22, fsv, B, I, by2, RZ, eq_self, TY])
     try refine ⟨by (first | exact True.intro | omega | (simp only [InK, ne_eq, and_true, true_and]; omega) | trivial), ?_⟩
     refine ⟨_, Weak.refl _ _, X, g, stamp, clk, n + 1, hg, by omega, ?_⟩
     simp only [tb, Nat.reduceEqDiff, Nat.succ_ne_self, Nat.zero_ne_one, Nat.one_ne_zero, decide_false, decide_true, Bool.or_false, Bool.or_true, Bool.false_or, up_true, up_false, selM_x, selM_y, selM_z, selF_t, selF_f, q11, q2, hbit]
    ·rintro m st ⟨X, g, stamp, clk, n, hg, hn, rfl⟩ hcl hbit hd
     have q12 := hd 12 (by decide) (by decide)
     have q8 := hd 8 (by decide) (by decide)
     unfold opH
     rw [guardVC_none]
     simp only [q12, q8, hbit, up_true, up_false, selM_x, selM_y, selM_z, selF_t, selF_f]
     refine .inl ?_
     (simp -dsimp only [↓RP, RQ, implies_true, forall_const, Nat.reduceMul, reduceIte, reduceCtorEq, Nat.reduceAdd, Nat.reduceEqDiff, Nat.reduceLT, Nat.reduceLeDiff, ↓RW, NB, hr0, hlen, Nat.add_zero, Nat.add_assoc, self_F1, self_F2, effK_ret, effK_normal, TYm, TYn, TYd, QF, hk, gsl, dk22, fsv, B, I, by2, RZ, eq_self, TY])
     try refine ⟨by (first | exact True.intro | omega | (simp only [InK, ne_eq, and_true, true_and]; omega) | trivial), ?_⟩
     refine ⟨_, Weak.refl _ _, X, g, stamp, clk, n + 1, hg, by omega, ?_⟩
     simp only [tb, Nat.reduceEqDiff, Nat.succ_ne_self, Nat.zero_ne_one, Nat.one_ne_zero, decide_false, decide_true, Bool.or_false, Bool.or_true, Bool.false_or, up_true, up_false, selM_x, selM_y, selM_z, selF_t, selF_f, q12, q8, hbit]
    ·rintro m st ⟨X, g, stamp, clk, n, hg, hn, rfl⟩ hcl hbit hd
     have q6 := hd 6 (by decide) (by decide)
     have q7 := hd 7 (by decide) (by decide)
     have q16 : m.testBit 16 = false := by
      cases h : m.testBit 16 with
      | false => rfl
      | true => have := hcl 16 14 (by decide) h; rw [hbit] at this; cases this
     have q15 : m.testBit 15 = false := by
      cases h : m.testBit 15 with
      | false => rfl
      | true => have := hcl 15 14 (by decide) h; rw [hbit] at this; cases this
     unfold opH
     rw [guardVC_none]
     simp only [q6, q7, q16, q15, hbit, up_true, up_false, selM_x, selM_y, selM_z, selF_t, selF_f]
     refine .inr ⟨rfl, .inl ?_⟩
     by_cases hdm : bDom M.q i (kv k true) = true
     ·refine mEntryOld_vc (mid := id + 3) (v := kv k true) (by (simp -dsimp only [↓RP, RQ, implies_true, forall_const, Nat.reduceMul, reduceIte, reduceCtorEq, Nat.reduceAdd, Nat.reduceEqDiff, Nat.reduceLT, Nat.reduceLeDiff, ↓RW, NB, hr0, hlen, Nat.add_zero, Nat.add_assoc, self_F1, self_F2, effK_ret, effK_normal, TYm, TYn, TYd, QF, hk, gsl, dk22, fsv, B, I, by2, RZ, eq_self, TY])) (by (simp -dsimp only [↓RP, RQ, implies_true, forall_const, Nat.reduceMul, reduceIte, reduceCtorEq, Nat.reduceAdd, Nat.reduceEqDiff, Nat.reduceLT, Nat.reduceLeDiff, ↓RW, NB, hr0, hlen, Nat.add_zero, Nat.add_assoc, self_F1, self_F2, effK_ret, effK_normal, TYm, TYn, TYd, QF, hk, gsl, dk22, fsv, B, I, by2, RZ, eq_self, TY]); rfl) mi116 (by (simp -dsimp only [↓RP, RQ, implies_true, forall_const, Nat.reduceMul, reduceIte, reduceCtorEq, Nat.reduceAdd, Nat.reduceEqDiff, Nat.reduceLT, Nat.reduceLeDiff, ↓RW, NB, hr0, hlen, Nat.add_zero, Nat.add_assoc, self_F1, self_F2, effK_ret, effK_normal, TYm, TYn, TYd, QF, hk, gsl, dk22, fsv, B, I, by2, RZ, eq_self, TY]); rfl) rfl hdm fun stamp' clk' => ?_
      (simp -dsimp only [↓RP, RQ, implies_true, forall_const, Nat.reduceMul, reduceIte, reduceCtorEq, Nat.reduceAdd, Nat.reduceEqDiff, Nat.reduceLT, Nat.reduceLeDiff, ↓RW, NB, hr0, hlen, Nat.add_zero, Nat.add_assoc, self_F1, self_F2, effK_ret, effK_normal, TYm, TYn, TYd, QF, hk, gsl, dk22, fsv, B, I, by2, RZ, eq_self, TY])
      refine ⟨_, Weak.refl _ _, bGet M.q i (kv k true), bGet M.q i, stamp', clk', n, hg0, hn, ?_⟩
      rw [hold hdm]
      simp only [tb, Nat.reduceEqDiff, Nat.succ_ne_self, Nat.zero_ne_one, Nat.one_ne_zero, decide_false, decide_true, Bool.or_false, Bool.or_true, Bool.false_or, up_true, up_false, selM_x, selM_y, selM_z, selF_t, selF_f, q6, q7, q16, q15, hbit]
     ·refine mEntry_vc (mid := id + 3) (v := kv k true) (by (simp -dsimp only [↓RP, RQ, implies_true, forall_const, Nat.reduceMul, reduceIte, reduceCtorEq, Nat.reduceAdd, Nat.reduceEqDiff, Nat.reduceLT, Nat.reduceLeDiff, ↓RW, NB, hr0, hlen, Nat.add_zero, Nat.add_assoc, self_F1, self_F2, effK_ret, effK_normal, TYm, TYn, TYd, QF, hk, gsl, dk22, fsv, B, I, by2, RZ, eq_self, TY])) (by (simp -dsimp only [↓RP, RQ, implies_true, forall_const, Nat.reduceMul, reduceIte, reduceCtorEq, Nat.reduceAdd, Nat.reduceEqDiff, Nat.reduceLT, Nat.reduceLeDiff, ↓RW, NB, hr0, hlen, Nat.add_zero, Nat.add_assoc, self_F1, self_F2, effK_ret, effK_normal, TYm, TYn, TYd, QF, hk, gsl, dk22, fsv, B, I, by2, RZ, eq_self, TY]); rfl) mi116 (by (simp -dsimp only [↓RP, RQ, implies_true, forall_const, Nat.reduceMul, reduceIte, reduceCtorEq, Nat.reduceAdd, Nat.reduceEqDiff, Nat.reduceLT, Nat.reduceLeDiff, ↓RW, NB, hr0, hlen, Nat.add_zero, Nat.add_assoc, self_F1, self_F2, effK_ret, effK_normal, TYm, TYn, TYd, QF, hk, gsl, dk22, fsv, B, I, by2, RZ, eq_self, TY]); rfl) rfl (by simpa using hdm) fun stamp' clk' => ?_
      (simp -dsimp only [↓RP, RQ, implies_true, forall_const, Nat.reduceMul, reduceIte, reduceCtorEq, Nat.reduceAdd, Nat.reduceEqDiff, Nat.reduceLT, Nat.reduceLeDiff, ↓RW, NB, hr0, hlen, Nat.add_zero, Nat.add_assoc, self_F1, self_F2, effK_ret, effK_normal, TYm, TYn, TYd, QF, hk, gsl, dk22, fsv, B, I, by2, RZ, eq_self, TY])
      refine ⟨_, Weak.refl _ _, .val (.int .i64 0), putGet (bGet M.q i) (kv k true) (.val (.int .i64 0)), stamp', clk', n, by rw [put_put]; exact hg0, hn, ?_⟩
      rw [hput]
      simp only [tb, Nat.reduceEqDiff, Nat.succ_ne_self, Nat.zero_ne_one, Nat.one_ne_zero, decide_false, decide_true, Bool.or_false, Bool.or_true, Bool.false_or, up_true, up_false, selM_x, selM_y, selM_z, selF_t, selF_f, q6, q7, q16, q15, hbit]
    ·rintro m st ⟨X, g, stamp, clk, n, hg, hn, rfl⟩ hcl hbit hd
     have q14 := hd 14 (by decide) (by decide)
     unfold opH
     rw [guardVC_none]
     simp only [q14, hbit, up_true, up_false, selM_x, selM_y, selM_z, selF_t, selF_f]
     refine .inl ?_
     (simp -dsimp only [↓RP, RQ, implies_true, forall_const, Nat.reduceMul, reduceIte, reduceCtorEq, Nat.reduceAdd, Nat.reduceEqDiff, Nat.reduceLT, Nat.reduceLeDiff, ↓RW, NB, hr0, hlen, Nat.add_zero, Nat.add_assoc, self_F1, self_F2, effK_ret, effK_normal, TYm, TYn, TYd, QF, hk, gsl, dk22, fsv, B, I, by2, RZ, eq_self, TY])
     try refine ⟨by (first | exact True.intro | omega | (simp only [InK, ne_eq, and_true, true_and]; omega) | trivial), ?_⟩
     refine ⟨_, Weak.refl _ _, X, g, stamp, clk, n + 1, hg, by omega, ?_⟩
     simp only [tb, Nat.reduceEqDiff, Nat.succ_ne_self, Nat.zero_ne_one, Nat.one_ne_zero, decide_false, decide_true, Bool.or_false, Bool.or_true, Bool.false_or, up_true, up_false, selM_x, selM_y, selM_z, selF_t, selF_f, q14, hbit]
    ·rintro m st ⟨X, g, stamp, clk, n, hg, hn, rfl⟩ hcl hbit hd
     have q6 := hd 6 (by decide) (by decide)
     have q15 := hd 15 (by decide) (by decide)
     have q9 := hd 9 (by decide) (by decide)
     have q14 := hd 14 (by decide) (by decide)
     unfold opH
     rw [guardVC_none]
     simp only [q6, q15, q9, q14, hbit, up_true, up_false, selM_x, selM_y, selM_z, selF_t, selF_f]
     refine .inr ⟨rfl, .inr ?_⟩
     refine mStore_vc (mid := id + 3) (v := kv k true) (dom := bDom M.q (i + 1)) (get := g) (stamp := stamp) (clk := clk) keyInfo120 rfl (by (simp -dsimp only [↓RP, RQ, implies_true, forall_const, Nat.reduceMul, reduceIte, reduceCtorEq, Nat.reduceAdd, Nat.reduceEqDiff, Nat.reduceLT, Nat.reduceLeDiff, ↓RW, NB, hr0, hlen, Nat.add_zero, Nat.add_assoc, self_F1, self_F2, effK_ret, effK_normal, TYm, TYn, TYd, QF, hk, gsl, dk22, fsv, B, I, by2, RZ, eq_self, TY])) (by (simp -dsimp only [↓RP, RQ, implies_true, forall_const, Nat.reduceMul, reduceIte, reduceCtorEq, Nat.reduceAdd, Nat.reduceEqDiff, Nat.reduceLT, Nat.reduceLeDiff, ↓RW, NB, hr0, hlen, Nat.add_zero, Nat.add_assoc, self_F1, self_F2, effK_ret, effK_normal, TYm, TYn, TYd, QF, hk, gsl, dk22, fsv, B, I, by2, RZ, eq_self, TY])) (by (simp -dsimp only [↓RP, RQ, implies_true, forall_const, Nat.reduceMul, reduceIte, reduceCtorEq, Nat.reduceAdd, Nat.reduceEqDiff, Nat.reduceLT, Nat.reduceLeDiff, ↓RW, NB, hr0, hlen, Nat.add_zero, Nat.add_assoc, self_F1, self_F2, effK_ret, effK_normal, TYm, TYn, TYd, QF, hk, gsl, dk22, fsv, B, I, by2, RZ, eq_self, TY])) hdd ?_
     (simp -dsimp only [↓RP, RQ, implies_true, forall_const, Nat.reduceMul, reduceIte, reduceCtorEq, Nat.reduceAdd, Nat.reduceEqDiff, Nat.reduceLT, Nat.reduceLeDiff, ↓RW, NB, hr0, hlen, Nat.add_zero, Nat.add_assoc, self_F1, self_F2, effK_ret, effK_normal, TYm, TYn, TYd, QF, hk, gsl, dk22, fsv, B, I, by2, RZ, eq_self, TY])
     refine ⟨_, Weak.refl _ _, X, g, stamp, clk, n, hg, hn, ?_⟩
     rw [hg]
     simp only [tb, Nat.reduceEqDiff, Nat.succ_ne_self, Nat.zero_ne_one, Nat.one_ne_zero, decide_false, decide_true, Bool.or_false, Bool.or_true, Bool.false_or, up_true, up_false, selM_x, selM_y, selM_z, selF_t, selF_f, q6, q15, q9, q14, hbit]
    ·rintro m st' ⟨X, g, stamp, clk, n, hg, hn, rfl⟩ hall
     simp only [hall 0 (by decide), hall 1 (by decide), hall 2 (by decide), hall 3 (by decide), hall 4 (by decide), hall 5 (by decide), hall 6 (by decide), hall 7 (by decide), hall 8 (by decide), hall 9 (by decide), hall 10 (by decide), hall 11 (by decide), hall 12 (by decide), hall 13 (by decide), hall 14 (by decide), hall 15 (by decide), hall 16 (by decide), up_true, selM_z, selF_t]
     have ⟨e1, e2⟩ := hit_lo M i hk hst.2 hl hb
     rw [← e1, ← e2]
     (repeat' (first | with_reducible refine splitVC_d (fun _ => ?_) (fun _ => ?_) | with_reducible refine splitVC (fun _ => ?_) (fun _ => ?_) | ((with_reducible refine And.intro ?_ ?_); focus (first | exact True.intro | omega | (simp only [InK, ne_eq, and_true, true_and]; omega) | trivial)) | (simp -dsimp only [↓RP, RQ, implies_true, forall_const, Nat.reduceMul, reduceIte, reduceCtorEq, Nat.reduceAdd, Nat.reduceEqDiff, Nat.reduceLT, Nat.reduceLeDiff, ↓RW, NB, hr0, hlen, Nat.add_zero, Nat.add_assoc, self_F1, self_F2, effK_ret, effK_normal, TYm, TYn, TYd, QF, fsv, B, I, by2, RZ, eq_self, TY, Try.results85])))
     refine ⟨(i + 1, n + 2), ⟨by simp only []; omega, by simp only []; omega⟩, by simp only []; omega, weakS ?_ ?_⟩
     ·simp [SubFr, Go.Sx.look]
     ·exact subDesk hr (by omega) (by omega) (by omega)
   ·have ⟨e1, e2, e3⟩ := hno (fun h => absurd (hbet.1 h) (by assumption))
    refine ⟨(i + 1, nid + 55), ⟨by simp only []; omega, by simp only []; omega⟩, by simp only []; omega, weakS ?_ ?_⟩
    ·simp [SubFr, Go.Sx.look]
    ·rw [e1, e2, e3]
     exact subDesk hr (by omega) (by omega) (by omega)
 ·have e : i = M.m := by omega
  subst e
  (repeat' (first | with_reducible refine splitVC_d (fun _ => ?_) (fun _ => ?_) | with_reducible refine splitVC (fun _ => ?_) (fun _ => ?_) | ((with_reducible refine And.intro ?_ ?_); focus (first | exact True.intro | omega | (simp only [InK, ne_eq, and_true, true_and]; omega) | trivial)) | (simp -dsimp only [↓RP, RQ, implies_true, forall_const, Nat.reduceMul, reduceIte, reduceCtorEq, Nat.reduceAdd, Nat.reduceEqDiff, Nat.reduceLT, Nat.reduceLeDiff, ↓RW, NB, hr0, hlen, Nat.add_zero, Nat.add_assoc, self_F1, self_F2, effK_ret, effK_normal, TYm, TYn, TYd, QF, fsv, B, I, by2, RZ, eq_self, TY, Try.results85])))
  all_goals first | (exfalso; omega) | skip
  refine ⟨_, _, _, weakS (fr' := [(0, _)]) ⟨.inr rfl, trivial⟩ (SubHp.refl _), rfl, by omega, rfl⟩
end Go.Od
end
section
set_option linter.unusedSimpArgs false
set_option linter.unusedVariables false
set_option linter.defProp false
set_option maxRecDepth 100000
set_option maxHeartbeats 16000000
namespace Go.Od
open Go.Proofs
open Go.Sx
theorem c87w (a b : Nat) (ha : a ≤ 9000000000000000000) (hb : b ≤ 9000000000000000000) : Contract Try.prog 87 [I a, I b] (I (Nat.gcd a b)) := by
 refine contract_of Try.func87 rfl (by kernel_rfl) follows (by kernel_rfl) _ _ (by rw [Try.ntmps87]; simp) (by simp [OldL, Old, I]) ?_
 unfold I
 (repeat' (first | with_reducible refine splitVC_d (fun _ => ?_) (fun _ => ?_) | ((with_reducible refine And.intro ?_ ?_); focus (first | exact True.intro | omega | (simp only [InK, ne_eq, and_true, true_and]; omega) | trivial)) | (simp -dsimp only [↓RP, RQ, implies_true, forall_const, Nat.reduceMul, reduceIte, reduceCtorEq, Nat.reduceAdd, Nat.reduceEqDiff, Nat.reduceLT, Nat.reduceLeDiff, fsv, B, I, by2, RZ, eq_self, TY, Try.results87])))
 refine loop_vc (fun (q : Nat × Nat) => Nat.gcd q.1 q.2 = Nat.gcd a b ∧ q.1 ≤ 9000000000000000000 ∧ q.2 ≤ 9000000000000000000) (fun q => ⟨[(0, .val (.int .i64 q.1)), (1, .val (.int .i64 q.2))], [], 0⟩) (fun q => q.2) (a, b) ⟨rfl, ha, hb⟩ (weak [] [] ?_ ?_ ?_) fun q hq => ?_
 ·(simp -dsimp only [↓RP, RQ, implies_true, forall_const, Nat.reduceMul, reduceIte, reduceCtorEq, Nat.reduceAdd, Nat.reduceEqDiff, Nat.reduceLT, Nat.reduceLeDiff]); all_goals simp
 ·(simp -dsimp only [↓RP, RQ, implies_true, forall_const, Nat.reduceMul, reduceIte, reduceCtorEq, Nat.reduceAdd, Nat.reduceEqDiff, Nat.reduceLT, Nat.reduceLeDiff])
 ·(simp -dsimp only [↓RP, RQ, implies_true, forall_const, Nat.reduceMul, reduceIte, reduceCtorEq, Nat.reduceAdd, Nat.reduceEqDiff, Nat.reduceLT, Nat.reduceLeDiff])
 obtain ⟨x, y⟩ := q
 obtain ⟨hg, hx, hy⟩ := hq
 have hg : Nat.gcd x y = Nat.gcd a b := hg
 have hx : x ≤ 9000000000000000000 := hx
 have hy : y ≤ 9000000000000000000 := hy
 by_cases h0 : 0 < y
 ·have hm := tmN x y
  have hlt := Nat.mod_lt x h0
  have hg2 : Nat.gcd y (x % y) = Nat.gcd a b := by rw [Nat.gcd_comm, ← Nat.gcd_rec, Nat.gcd_comm, hg]
  generalize x % y = z at hm hlt hg2
  (repeat' (first | with_reducible refine splitVC_d (fun _ => ?_) (fun _ => ?_) | ((with_reducible refine And.intro ?_ ?_); focus (first | exact True.intro | omega | (simp only [InK, ne_eq, and_true, true_and]; omega) | trivial)) | (simp -dsimp only [↓RP, RQ, implies_true, forall_const, Nat.reduceMul, reduceIte, reduceCtorEq, Nat.reduceAdd, Nat.reduceEqDiff, Nat.reduceLT, Nat.reduceLeDiff, hm, fsv, B, I, by2, RZ, eq_self, TY, Try.results87])))
  all_goals first | (exfalso; omega) | skip
  refine ⟨(y, z), ⟨hg2, hy, by show z ≤ 9000000000000000000; omega⟩, hlt, weak [] [] ?_ ?_ ?_⟩
  ·(simp -dsimp only [↓RP, RQ, implies_true, forall_const, Nat.reduceMul, reduceIte, reduceCtorEq, Nat.reduceAdd, Nat.reduceEqDiff, Nat.reduceLT, Nat.reduceLeDiff]); all_goals simp
  ·(simp -dsimp only [↓RP, RQ, implies_true, forall_const, Nat.reduceMul, reduceIte, reduceCtorEq, Nat.reduceAdd, Nat.reduceEqDiff, Nat.reduceLT, Nat.reduceLeDiff])
  ·(simp -dsimp only [↓RP, RQ, implies_true, forall_const, Nat.reduceMul, reduceIte, reduceCtorEq, Nat.reduceAdd, Nat.reduceEqDiff, Nat.reduceLT, Nat.reduceLeDiff])
 ·have hy0 : y = 0 := by omega
  subst hy0
  rw [Nat.gcd_zero_right] at hg
  rw [← hg]
  (repeat' (first | with_reducible refine splitVC_d (fun _ => ?_) (fun _ => ?_) | ((with_reducible refine And.intro ?_ ?_); focus (first | exact True.intro | omega | (simp only [InK, ne_eq, and_true, true_and]; omega) | trivial)) | (simp -dsimp only [↓RP, RQ, implies_true, forall_const, Nat.reduceMul, reduceIte, reduceCtorEq, Nat.reduceAdd, Nat.reduceEqDiff, Nat.reduceLT, Nat.reduceLeDiff, fsv, B, I, by2, RZ, eq_self, TY, Try.results87])))
  all_goals first | (exfalso; omega) | rfl | skip
theorem c79w (a : Fr) (hd : 0 < a.d) (hd2 : a.d ≤ 9000000000000000000) (h1 : -9000000000000000000 ≤ a.n) (h2 : a.n ≤ 9000000000000000000) : Contract Try.prog 79 [I a.n, I a.d] (fsv (red a)) := by
 refine contract_of Try.func79 rfl (by kernel_rfl) follows (by kernel_rfl) _ _ (by rw [Try.ntmps79]; simp) (by simp [OldL, Old, I]) ?_
 have hg := Int.gcd_pos_of_ne_zero_right a.n (show a.d ≠ 0 by omega)
 have eg : Int.gcd a.n a.d = Nat.gcd a.n.natAbs a.d.natAbs := Int.gcd_eq_natAbs_gcd_natAbs _ _
 have e1 : max a.n (-a.n) = ((a.n.natAbs : Nat) : Int) := by omega
 have e2 : a.d = ((a.d.natAbs : Nat) : Int) := by omega
 have ⟨r1, r2, r3, r4⟩ := red_spec hd
 have rn : -9000000000000000000 ≤ (red a).n ∧ (red a).n ≤ 9000000000000000000 := by
  have h5 : (red a).n = a.n.tdiv (Int.gcd a.n a.d) := rfl
  have h6 := Int.natAbs_tdiv_le_natAbs a.n (Int.gcd a.n a.d)
  rw [← h5] at h6
  omega
 have k := c87w a.n.natAbs a.d.natAbs (by omega) (by omega)
 rw [← e2, ← eg, ← e1] at k
 have q1 : a.n.tdiv (Int.gcd a.n a.d) = (red a).n := rfl
 have q2 : a.d.tdiv (Int.gcd a.n a.d) = (red a).d := rfl
 generalize Int.gcd a.n a.d = g at *
 unfold fsv I
 (repeat' (first | with_reducible refine splitVC_d (fun _ => ?_) (fun _ => ?_) | ((with_reducible refine And.intro ?_ ?_); focus (first | exact True.intro | omega | (simp only [InK, ne_eq, and_true, true_and]; omega) | trivial)) | (simp -dsimp only [↓RP, RQ, implies_true, forall_const, Nat.reduceMul, reduceIte, reduceCtorEq, Nat.reduceAdd, Nat.reduceEqDiff, Nat.reduceLT, Nat.reduceLeDiff, fsv, B, I, by2, RZ, eq_self, TY, Try.results79])))
 all_goals first | (exfalso; omega) | skip
 refine callVC k (by (simp -dsimp only [↓RP, RQ, implies_true, forall_const, Nat.reduceMul, reduceIte, reduceCtorEq, Nat.reduceAdd, Nat.reduceEqDiff, Nat.reduceLT, Nat.reduceLeDiff, I]); all_goals (try simp)) (by (simp -dsimp only [↓RP, RQ, implies_true, forall_const, Nat.reduceMul, reduceIte, reduceCtorEq, Nat.reduceAdd, Nat.reduceEqDiff, Nat.reduceLT, Nat.reduceLeDiff, fsv, I])) ?_
 (repeat' (first | with_reducible refine splitVC_d (fun _ => ?_) (fun _ => ?_) | ((with_reducible refine And.intro ?_ ?_); focus (first | exact True.intro | omega | (simp only [InK, ne_eq, and_true, true_and]; omega) | trivial)) | (simp -dsimp only [↓RP, RQ, implies_true, forall_const, Nat.reduceMul, reduceIte, reduceCtorEq, Nat.reduceAdd, Nat.reduceEqDiff, Nat.reduceLT, Nat.reduceLeDiff, q1, q2, fsv, B, I, by2, RZ, eq_self, TY, Try.results79])))
 all_goals first | (exfalso; omega) | skip
 all_goals (simp only [InK]; omega)
theorem nbF {b c : Nat} (h : c ≤ b) : ∀ j, j < c → (b = j) = False := fun j hj => by rw [eq_iff_iff, iff_false]; omega
theorem nbG {b c : Nat} (h : c ≤ b) : ∀ j, j < c → (j = b) = False := fun j hj => by rw [eq_iff_iff, iff_false]; omega
theorem e78 (M : Mk) (k : Nat) (s : Nat → Int) (hk6 : k ≤ 1000000) (id : Nat) (rest : List (Nat × Blk)) (hr : Under rest id) : EffVC Try.prog 78 [M.sv, ints k s] rest id (fun hp' nid' res =>
  (M.stk k s ≠ 0 ∧ hp' = rest ∧ id ≤ nid' ∧ res = .tup [.val (.pointer none), I (M.stk k s)]) ∨
  (M.stk k s = 0 ∧ ∃ b, id ≤ b ∧ b + 7 ≤ nid' ∧ hp' = (b + 5, dkB M (dlo M M.m) (dhi M M.m) (b + 3)) :: (b + 3, mpB M M.m) :: rest ∧ res = .tup [.ptr (b + 5) 0, I 0])) := by
 refine eff_of follows Try.func78 rfl (by kernel_rfl) (by kernel_rfl) (by rw [Try.ntmps78]; simp) fun out => ?_
 have hr0 : blk rest id = none := hr.none (Nat.le_refl _)
 have NB : True := trivial
 have sub1 : ∀ X, SubHp ((id, X) :: rest) rest := fun X => SubHp.skip hr0 (SubHp.refl _)
 conv => arg 4; unfold Mk.sv qts ints I
 (repeat' (first | with_reducible refine splitVC_d (fun _ => ?_) (fun _ => ?_) | with_reducible refine splitVC (fun _ => ?_) (fun _ => ?_) | ((with_reducible refine And.intro ?_ ?_); focus (first | exact True.intro | omega | (simp only [InK, ne_eq, and_true, true_and]; omega) | trivial)) | (simp -dsimp only [↓RP, RQ, implies_true, forall_const, Nat.reduceMul, reduceIte, reduceCtorEq, Nat.reduceAdd, Nat.reduceEqDiff, Nat.reduceLT, Nat.reduceLeDiff, NB, hr0, Nat.add_zero, Nat.add_assoc, self_F1, self_F2, effK_ret, effK_normal, TYm, QF, fsv, B, I, by2, RZ, eq_self, TY, Try.results78])))
 refine callVC (c35 M) (by (simp -dsimp only [↓RP, RQ, implies_true, forall_const, Nat.reduceMul, reduceIte, reduceCtorEq, Nat.reduceAdd, Nat.reduceEqDiff, Nat.reduceLT, Nat.reduceLeDiff, Mk.sv, qts, I]); all_goals (try simp [sub_q])) (by (simp -dsimp only [↓RP, RQ, implies_true, forall_const, Nat.reduceMul, reduceIte, reduceCtorEq, Nat.reduceAdd, Nat.reduceEqDiff, Nat.reduceLT, Nat.reduceLeDiff, fsv, I])) ?_
 by_cases he : M.err = 0
 rotate_left
 ·(repeat' (first | with_reducible refine splitVC_d (fun _ => ?_) (fun _ => ?_) | with_reducible refine splitVC (fun _ => ?_) (fun _ => ?_) | ((with_reducible refine And.intro ?_ ?_); focus (first | exact True.intro | omega | (simp only [InK, ne_eq, and_true, true_and]; omega) | trivial)) | (simp -dsimp only [↓RP, RQ, implies_true, forall_const, Nat.reduceMul, reduceIte, reduceCtorEq, Nat.reduceAdd, Nat.reduceEqDiff, Nat.reduceLT, Nat.reduceLeDiff, NB, hr0, Nat.add_zero, Nat.add_assoc, self_F1, self_F2, effK_ret, effK_normal, TYm, QF, fsv, B, I, by2, RZ, eq_self, TY, Try.results78])))
  all_goals first | (exfalso; omega) | skip
  refine ⟨_, _, _, weakS (fr' := [(0, _)]) ⟨.inr rfl, trivial⟩ (sub1 _), .inl ⟨by rw [← Mk.stk_no he]; exact he, rfl, by omega, by rw [← Mk.stk_no he]; rfl⟩⟩
 rw [he]
 (repeat' (first | with_reducible refine splitVC_d (fun _ => ?_) (fun _ => ?_) | with_reducible refine splitVC (fun _ => ?_) (fun _ => ?_) | ((with_reducible refine And.intro ?_ ?_); focus (first | exact True.intro | omega | (simp only [InK, ne_eq, and_true, true_and]; omega) | trivial)) | (simp -dsimp only [↓RP, RQ, implies_true, forall_const, Nat.reduceMul, reduceIte, reduceCtorEq, Nat.reduceAdd, Nat.reduceEqDiff, Nat.reduceLT, Nat.reduceLeDiff, NB, hr0, Nat.add_zero, Nat.add_assoc, self_F1, self_F2, effK_ret, effK_normal, TYm, QF, fsv, B, I, by2, RZ, eq_self, TY, Try.results78])))
 all_goals first | (exfalso; omega) | skip
 rotate_left
 ·have e15 := Mk.stk_15 (s := s) he (show ¬ k = M.m by omega)
  refine ⟨_, _, _, weakS (fr' := [(0, _)]) ⟨.inr rfl, trivial⟩ (sub1 _), .inl ⟨by rw [← e15]; decide, rfl, by omega, by rw [← e15]; rfl⟩⟩
 have hk : k = M.m := by omega
 refine callVC (c67 k s 0 1099511627776 hk6) (by (simp -dsimp only [↓RP, RQ, implies_true, forall_const, Nat.reduceMul, reduceIte, reduceCtorEq, Nat.reduceAdd, Nat.reduceEqDiff, Nat.reduceLT, Nat.reduceLeDiff, Go.Od.ints, I]); all_goals (try simp)) (by (simp -dsimp only [↓RP, RQ, implies_true, forall_const, Nat.reduceMul, reduceIte, reduceCtorEq, Nat.reduceAdd, Nat.reduceEqDiff, Nat.reduceLT, Nat.reduceLeDiff, B])) ?_
 (repeat' (first | with_reducible refine splitVC_d (fun _ => ?_) (fun _ => ?_) | with_reducible refine splitVC (fun _ => ?_) (fun _ => ?_) | ((with_reducible refine And.intro ?_ ?_); focus (first | exact True.intro | omega | (simp only [InK, ne_eq, and_true, true_and]; omega) | trivial)) | (simp -dsimp only [↓RP, RQ, implies_true, forall_const, Nat.reduceMul, reduceIte, reduceCtorEq, Nat.reduceAdd, Nat.reduceEqDiff, Nat.reduceLT, Nat.reduceLeDiff, NB, hr0, Nat.add_zero, Nat.add_assoc, self_F1, self_F2, effK_ret, effK_normal, TYm, QF, fsv, B, I, by2, RZ, eq_self, TY, Try.results78])))
 rotate_left
 ·rename_i h
  have e3 := Mk.stk_3 he hk (show ¬ allS s k from h)
  refine ⟨_, _, _, weakS (fr' := [(0, _)]) ⟨.inr rfl, trivial⟩ (sub1 _), .inl ⟨by rw [← e3]; decide, rfl, by omega, by rw [← e3]; rfl⟩⟩
 rename_i h
 have e0 := Mk.stk_0 he hk (show allS s k from h)
 refine callE (by rfl) (e85 M (Mk.fine he) _ _ ((hr.mono (Nat.le_add_right id _)).cons (by omega))) fun hp' nid' res ⟨q1, q2, q3⟩ => ?_
 subst q1 q3
 (repeat' (first | with_reducible refine splitVC_d (fun _ => ?_) (fun _ => ?_) | with_reducible refine splitVC (fun _ => ?_) (fun _ => ?_) | ((with_reducible refine And.intro ?_ ?_); focus (first | exact True.intro | omega | (simp only [InK, ne_eq, and_true, true_and]; omega) | trivial)) | (simp -dsimp only [↓RP, RQ, implies_true, forall_const, Nat.reduceMul, reduceIte, reduceCtorEq, Nat.reduceAdd, Nat.reduceEqDiff, Nat.reduceLT, Nat.reduceLeDiff, NB, hr0, Nat.add_zero, Nat.add_assoc, self_F1, self_F2, effK_ret, effK_normal, TYm, QF, fsv, B, I, by2, RZ, eq_self, TY, Try.results78])))
 all_goals first | (exfalso; omega) | skip
 refine ⟨_, _, _, weakS (fr' := [(0, _)]) ⟨.inr rfl, trivial⟩ ?_, .inr ⟨e0.symm, _, ?_, ?_, rfl, rfl⟩⟩
 ·exact SubHp.cons (SubHp.cons (SubHp.skip (hr.none (by omega)) (SubHp.skip hr0 (SubHp.refl _))))
 ·omega
 ·omega
def Mk.net (M : Mk) (k : Nat) (s : Nat → Int) (w : Int) : Fr × Int := if M.stk k s = 0 then (if w < 0 ∨ M.run ≤ w then (⟨0, 0⟩, 2) else (red ⟨netT M.q s w M.m, 2520⟩, 0)) else (⟨0, 0⟩, M.stk k s)
theorem Mk.net_no {M : Mk} {k : Nat} {s : Nat → Int} {w : Int} (h : ¬ M.stk k s = 0) : M.net k s w = (⟨0, 0⟩, M.stk k s) := by unfold Mk.net; rw [if_neg h]
theorem Mk.net_2 {M : Mk} {k : Nat} {s : Nat → Int} {w : Int} (h : M.stk k s = 0) (h2 : w < 0 ∨ M.run ≤ w) : M.net k s w = (⟨0, 0⟩, 2) := by unfold Mk.net; rw [if_pos h, if_pos h2]
theorem Mk.net_0 {M : Mk} {k : Nat} {s : Nat → Int} {w : Int} (h : M.stk k s = 0) (h2 : ¬ (w < 0 ∨ M.run ≤ w)) : M.net k s w = (red ⟨netT M.q s w M.m, 2520⟩, 0) := by unfold Mk.net; rw [if_pos h, if_neg h2]
theorem dk_sub (hp : List (Nat × Blk)) (run : Int) (m : Nat) (q : Nat → Qt) (lo hi : Nat → Fr) (mid : Nat) : ∀ j, j < 2 → Go.Sx.Sub hp (dkf run m q j) ((dkL run m q lo hi mid).getD j .top) ∧ j < (dkL run m q lo hi mid).length := fun j hj => by
 rw [dk_len]
 refine ⟨?_, by omega⟩
 have : j = 0 ∨ j = 1 := by omega
 rcases this with rfl | rfl
 ·exact sub_refl _ (dkf_old run m q 0)
 ·exact sub_refl _ (dkf_old run m q 1)
def winF (q : Nat → Qt) (s : Nat → Int) (m : Nat) (n : Nat) : Prop := ∀ w : Nat, w < n → 0 < netT q s w m
instance (q : Nat → Qt) (s : Nat → Int) (m n : Nat) : Decidable (winF q s m n) := by unfold winF; infer_instance
def Mk.ckS (M : Mk) (k : Nat) (s : Nat → Int) : Int := if M.stk k s = 0 then (if winF M.q s M.m M.run.toNat then 0 else 14) else M.stk k s
theorem Mk.ckS_no {M : Mk} {k : Nat} {s : Nat → Int} (h : ¬ M.stk k s = 0) : M.stk k s = M.ckS k s := by unfold Mk.ckS; rw [if_neg h]
theorem Mk.ckS_14 {M : Mk} {k : Nat} {s : Nat → Int} (h : M.stk k s = 0) (h2 : ¬ winF M.q s M.m M.run.toNat) : 14 = M.ckS k s := by unfold Mk.ckS; rw [if_pos h, if_neg h2]
theorem Mk.ckS_0 {M : Mk} {k : Nat} {s : Nat → Int} (h : M.stk k s = 0) (h2 : winF M.q s M.m M.run.toNat) : 0 = M.ckS k s := by unfold Mk.ckS; rw [if_pos h, if_pos h2]
theorem c33 (M : Mk) (k : Nat) (hk6 : k ≤ 1000000) (s : Nat → Int) (w : Int) : Contract Try.prog 33 [M.sv, ints k s, I w] (.tup [fsv (M.net k s w).1, I (M.net k s w).2]) := by
 refine contract_of Try.func33 rfl (by kernel_rfl) follows (by kernel_rfl) _ _ (by rw [Try.ntmps33]; simp) (by simp only [OldL, Mk.old, true_and]; simp [Old, ints, I]) ?_
 conv => arg 4; unfold Mk.sv qts ints I
 (repeat' (first | with_reducible refine splitVC_d (fun _ => ?_) (fun _ => ?_) | with_reducible refine splitVC (fun _ => ?_) (fun _ => ?_) | ((with_reducible refine And.intro ?_ ?_); focus (first | exact True.intro | omega | (simp only [InK, ne_eq, and_true, true_and]; omega) | trivial)) | (simp -dsimp only [↓RP, RQ, implies_true, forall_const, Nat.reduceMul, reduceIte, reduceCtorEq, Nat.reduceAdd, Nat.reduceEqDiff, Nat.reduceLT, Nat.reduceLeDiff, TYm, QF, fsv, B, I, by2, RZ, eq_self, TY, Try.results33])))
 refine callE (by rfl) (e78 M k s hk6 _ _ ((Under.nil.cons (by omega)).cons (by omega))) fun hp' nid' res q => ?_
 rcases q with ⟨q0, q1, q2, q3⟩ | ⟨q0, b, hb, hbn, q1, q3⟩
 ·subst q1 q3
  rw [Mk.net_no q0]
  (repeat' (first | with_reducible refine splitVC_d (fun _ => ?_) (fun _ => ?_) | with_reducible refine splitVC (fun _ => ?_) (fun _ => ?_) | ((with_reducible refine And.intro ?_ ?_); focus (first | exact True.intro | omega | (simp only [InK, ne_eq, and_true, true_and]; omega) | trivial)) | (simp -dsimp only [↓RP, RQ, implies_true, forall_const, Nat.reduceMul, reduceIte, reduceCtorEq, Nat.reduceAdd, Nat.reduceEqDiff, Nat.reduceLT, Nat.reduceLeDiff, I, TYm, QF, fsv, B, by2, RZ, eq_self, TY, Try.results33])))
  all_goals first | (exfalso; omega) | skip
  all_goals first | exact ⟨rfl, rfl⟩ | exact ⟨⟨rfl, rfl⟩, ⟨rfl, rfl⟩⟩ | exact ⟨⟨rfl, rfl⟩, rfl⟩ | exact ⟨⟨rfl, rfl⟩, ⟨rfl, rfl⟩, rfl⟩ | skip
 ·subst q1 q3
  have NB := names85 hbn
  have NB2 := nbF hb
  have NB3 := nbG hb
  have NB4 := nbF (Nat.le_trans hb (Nat.le_trans (Nat.le_add_right b 7) hbn))
  have NB5 := nbG (Nat.le_trans hb (Nat.le_trans (Nat.le_add_right b 7) hbn))
  have ⟨he, hkm, hall⟩ := Mk.stk_iff.1 q0
  subst hkm
  have hf := Mk.fine he
  have nbd := netT_bd (w := w) hf.od hall
  have hm12 := hf.m12
  (repeat' (first | with_reducible refine splitVC_d (fun _ => ?_) (fun _ => ?_) | with_reducible refine splitVC (fun _ => ?_) (fun _ => ?_) | ((with_reducible refine And.intro ?_ ?_); focus (first | exact True.intro | omega | (simp only [InK, ne_eq, and_true, true_and]; omega) | trivial)) | (simp -dsimp only [↓RP, RQ, implies_true, forall_const, Nat.reduceMul, reduceIte, reduceCtorEq, Nat.reduceAdd, Nat.reduceEqDiff, Nat.reduceLT, Nat.reduceLeDiff, NB, NB2, NB3, NB4, NB5, Nat.add_zero, Nat.add_assoc, self_F1, self_F2, TYm, QF, fsv, B, I, by2, RZ, eq_self, TY, Try.results33])))
  all_goals first | (exfalso; omega) | (rw [Mk.net_2 q0 (by omega)]; first | exact ⟨rfl, rfl⟩ | exact ⟨⟨rfl, rfl⟩, rfl⟩) | skip
  rw [Mk.net_0 q0 (by omega)]
  refine callVC (c80 M hf s hall w) (by (simp -dsimp only [↓RP, RQ, implies_true, forall_const, Nat.reduceMul, reduceIte, reduceCtorEq, Nat.reduceAdd, Nat.reduceEqDiff, Nat.reduceLT, Nat.reduceLeDiff, Go.Od.ints, I, NB, NB2, NB3, NB4, NB5]); all_goals (try simp); all_goals (try exact dk_sub _ _ _ _ _ _ _)) (by (simp -dsimp only [↓RP, RQ, implies_true, forall_const, Nat.reduceMul, reduceIte, reduceCtorEq, Nat.reduceAdd, Nat.reduceEqDiff, Nat.reduceLT, Nat.reduceLeDiff, fsv, I])) ?_
  (repeat' (first | with_reducible refine splitVC_d (fun _ => ?_) (fun _ => ?_) | with_reducible refine splitVC (fun _ => ?_) (fun _ => ?_) | ((with_reducible refine And.intro ?_ ?_); focus (first | exact True.intro | omega | (simp only [InK, ne_eq, and_true, true_and]; omega) | trivial)) | (simp -dsimp only [↓RP, RQ, implies_true, forall_const, Nat.reduceMul, reduceIte, reduceCtorEq, Nat.reduceAdd, Nat.reduceEqDiff, Nat.reduceLT, Nat.reduceLeDiff, NB, NB2, NB3, NB4, NB5, Nat.add_zero, Nat.add_assoc, self_F1, self_F2, TYm, QF, fsv, B, I, by2, RZ, eq_self, TY, Try.results33])))
  refine callVC (c79w ⟨netT M.q s w M.m, 2520⟩ (by show (0 : Int) < 2520; omega) (by show (2520 : Int) ≤ _; omega) (by show _ ≤ netT M.q s w M.m; omega) (by show netT M.q s w M.m ≤ _; omega)) (by (simp -dsimp only [↓RP, RQ, implies_true, forall_const, Nat.reduceMul, reduceIte, reduceCtorEq, Nat.reduceAdd, Nat.reduceEqDiff, Nat.reduceLT, Nat.reduceLeDiff, Go.Od.ints, I]); all_goals (try simp)) (by (simp -dsimp only [↓RP, RQ, implies_true, forall_const, Nat.reduceMul, reduceIte, reduceCtorEq, Nat.reduceAdd, Nat.reduceEqDiff, Nat.reduceLT, Nat.reduceLeDiff, fsv, I])) ?_
  (repeat' (first | with_reducible refine splitVC_d (fun _ => ?_) (fun _ => ?_) | with_reducible refine splitVC (fun _ => ?_) (fun _ => ?_) | ((with_reducible refine And.intro ?_ ?_); focus (first | exact True.intro | omega | (simp only [InK, ne_eq, and_true, true_and]; omega) | trivial)) | (simp -dsimp only [↓RP, RQ, implies_true, forall_const, Nat.reduceMul, reduceIte, reduceCtorEq, Nat.reduceAdd, Nat.reduceEqDiff, Nat.reduceLT, Nat.reduceLeDiff, NB, NB2, NB3, NB4, NB5, Nat.add_zero, Nat.add_assoc, self_F1, self_F2, TYm, QF, fsv, B, I, by2, RZ, eq_self, TY, Try.results33])))
  all_goals first | exact ⟨rfl, rfl⟩ | exact ⟨⟨rfl, rfl⟩, ⟨rfl, rfl⟩⟩ | exact ⟨⟨rfl, rfl⟩, rfl⟩ | exact ⟨⟨rfl, rfl⟩, ⟨rfl, rfl⟩, rfl⟩ | skip
end Go.Od
end
section
set_option linter.unusedSimpArgs false
set_option linter.unusedVariables false
set_option linter.defProp false
set_option maxRecDepth 100000
set_option maxHeartbeats 16000000
namespace Go.Od
open Go.Proofs
open Go.Sx
theorem win_of {q : Nat → Qt} {s : Nat → Int} {m w : Nat} (h : ∀ v : Nat, v < w → 0 < netT q s v m) (h2 : 0 < netT q s w m) : ∀ v : Nat, v < w + 1 → 0 < netT q s v m := fun v hv => by
 by_cases e : v = w
 ·subst e; exact h2
 ·exact h v (by omega)
theorem c37 (M : Mk) (k : Nat) (hk6 : k ≤ 1000000) (s : Nat → Int) : Contract Try.prog 37 [M.sv, ints k s] (I (M.ckS k s)) := by
 refine contract_of Try.func37 rfl (by kernel_rfl) follows (by kernel_rfl) _ _ (by rw [Try.ntmps37]; simp) (by simp only [OldL, Mk.old, true_and]; simp [Old, ints]) ?_
 conv => arg 4; unfold Mk.sv qts ints I
 (repeat' (first | with_reducible refine splitVC_d (fun _ => ?_) (fun _ => ?_) | with_reducible refine splitVC (fun _ => ?_) (fun _ => ?_) | ((with_reducible refine And.intro ?_ ?_); focus (first | exact True.intro | omega | (simp only [InK, ne_eq, and_true, true_and]; omega) | trivial)) | (simp -dsimp only [↓RP, RQ, implies_true, forall_const, Nat.reduceMul, reduceIte, reduceCtorEq, Nat.reduceAdd, Nat.reduceEqDiff, Nat.reduceLT, Nat.reduceLeDiff, TYm, QF, fsv, B, I, by2, RZ, eq_self, TY, Try.results37])))
 refine callE (by rfl) (e78 M k s hk6 _ _ (Under.nil.cons (by omega))) fun hp' nid' res q => ?_
 rcases q with ⟨q0, q1, q2, q3⟩ | ⟨q0, b, hb, hbn, q1, q3⟩
 ·subst q1 q3
  (repeat' (first | with_reducible refine splitVC_d (fun _ => ?_) (fun _ => ?_) | with_reducible refine splitVC (fun _ => ?_) (fun _ => ?_) | ((with_reducible refine And.intro ?_ ?_); focus (first | exact True.intro | omega | (simp only [InK, ne_eq, and_true, true_and]; omega) | trivial)) | (simp -dsimp only [↓RP, RQ, implies_true, forall_const, Nat.reduceMul, reduceIte, reduceCtorEq, Nat.reduceAdd, Nat.reduceEqDiff, Nat.reduceLT, Nat.reduceLeDiff, I, TYm, QF, fsv, B, by2, RZ, eq_self, TY, Try.results37])))
  all_goals first | (exfalso; omega) | skip
  exact I_eq (Mk.ckS_no q0)
 ·subst q1 q3
  have NB := names85 hbn
  have NB2 := nbF hb
  have NB3 := nbG hb
  have NB4 := nbF (Nat.le_trans hb (Nat.le_trans (Nat.le_add_right b 7) hbn))
  have NB5 := nbG (Nat.le_trans hb (Nat.le_trans (Nat.le_add_right b 7) hbn))
  have ⟨he, hkm, hall⟩ := Mk.stk_iff.1 q0
  subst hkm
  have hf := Mk.fine he
  have hm12 := hf.m12
  have hr5 := hf.r5
  have hr1 := hf.r1
  (repeat' (first | with_reducible refine splitVC_d (fun _ => ?_) (fun _ => ?_) | with_reducible refine splitVC (fun _ => ?_) (fun _ => ?_) | ((with_reducible refine And.intro ?_ ?_); focus (first | exact True.intro | omega | (simp only [InK, ne_eq, and_true, true_and]; omega) | trivial)) | (simp -dsimp only [↓RP, RQ, implies_true, forall_const, Nat.reduceMul, reduceIte, reduceCtorEq, Nat.reduceAdd, Nat.reduceEqDiff, Nat.reduceLT, Nat.reduceLeDiff, NB, NB2, NB3, NB4, NB5, Nat.add_zero, Nat.add_assoc, self_F1, self_F2, TYm, QF, fsv, B, I, by2, RZ, eq_self, TY, Try.results37])))
  all_goals first | (exfalso; omega) | skip
  refine loop_vc (fun (z : Nat × Nat) => (z.1 : Int) ≤ M.run ∧ b + 7 ≤ z.2 ∧ ∀ v : Nat, v < z.1 → 0 < netT M.q s v M.m) (fun z => ⟨[(1, .arr false false M.m 1 (fun i _ => .val (.int .i64 (s i)))), (5, .ptr (b + 5) 0), (18, .val (.int .i64 M.run)), (19, .val (.int .i64 z.1))], (b + 5, dkB M (dlo M M.m) (dhi M M.m) (b + 3)) :: (b + 3, mpB M M.m) :: [], z.2⟩) (fun z => (M.run - z.1).toNat) (0, nid' + 13) ⟨by simp only []; omega, by simp only []; omega, fun v hv => by simp only [] at hv; omega⟩ (weakS ?_ ?_) fun z hz => ?_
  ·simp [SubFr, Go.Sx.look]
  ·exact SubHp.cons (SubHp.cons (fun k x hx => by simp [blk] at hx))
  clear NB NB4 NB5
  obtain ⟨i, nid⟩ := z
  obtain ⟨hz1, hz2, hz3⟩ := hz
  simp only [] at hz1 hz2 hz3
  have NB := names85 hz2
  have NB4 := nbF (Nat.le_trans hb (Nat.le_trans (Nat.le_add_right b 7) hz2))
  have NB5 := nbG (Nat.le_trans hb (Nat.le_trans (Nat.le_add_right b 7) hz2))
  by_cases hlt : (i : Int) < M.run
  ·(repeat' (first | with_reducible refine splitVC_d (fun _ => ?_) (fun _ => ?_) | with_reducible refine splitVC (fun _ => ?_) (fun _ => ?_) | ((with_reducible refine And.intro ?_ ?_); focus (first | exact True.intro | omega | (simp only [InK, ne_eq, and_true, true_and]; omega) | trivial)) | (simp -dsimp only [↓RP, RQ, implies_true, forall_const, Nat.reduceMul, reduceIte, reduceCtorEq, Nat.reduceAdd, Nat.reduceEqDiff, Nat.reduceLT, Nat.reduceLeDiff, NB, NB2, NB3, NB4, NB5, Nat.add_zero, Nat.add_assoc, self_F1, self_F2, TYm, QF, fsv, B, I, by2, RZ, eq_self, TY, Try.results37])))
   all_goals first | (exfalso; omega) | skip
   refine callVC (c80 M hf s hall i) (by (simp -dsimp only [↓RP, RQ, implies_true, forall_const, Nat.reduceMul, reduceIte, reduceCtorEq, Nat.reduceAdd, Nat.reduceEqDiff, Nat.reduceLT, Nat.reduceLeDiff, Go.Od.ints, I, NB, NB2, NB3, NB4, NB5]); all_goals (try simp); all_goals (try exact dk_sub _ _ _ _ _ _ _)) (by (simp -dsimp only [↓RP, RQ, implies_true, forall_const, Nat.reduceMul, reduceIte, reduceCtorEq, Nat.reduceAdd, Nat.reduceEqDiff, Nat.reduceLT, Nat.reduceLeDiff, fsv, I])) ?_
   (repeat' (first | with_reducible refine splitVC_d (fun _ => ?_) (fun _ => ?_) | with_reducible refine splitVC (fun _ => ?_) (fun _ => ?_) | ((with_reducible refine And.intro ?_ ?_); focus (first | exact True.intro | omega | (simp only [InK, ne_eq, and_true, true_and]; omega) | trivial)) | (simp -dsimp only [↓RP, RQ, implies_true, forall_const, Nat.reduceMul, reduceIte, reduceCtorEq, Nat.reduceAdd, Nat.reduceEqDiff, Nat.reduceLT, Nat.reduceLeDiff, NB, NB2, NB3, NB4, NB5, Nat.add_zero, Nat.add_assoc, self_F1, self_F2, TYm, QF, fsv, B, I, by2, RZ, eq_self, TY, Try.results37])))
   all_goals first | (exfalso; omega) | (refine I_eq (Mk.ckS_14 q0 fun h => ?_); have h2 := h i (by omega); omega) | skip
   refine ⟨(i + 1, nid + 10), ⟨by simp only []; omega, by simp only []; omega, win_of hz3 (by assumption)⟩, by simp only []; omega, weakS ?_ ?_⟩
   ·simp [SubFr, Go.Sx.look]
   ·exact SubHp.refl _
  ·(repeat' (first | with_reducible refine splitVC_d (fun _ => ?_) (fun _ => ?_) | with_reducible refine splitVC (fun _ => ?_) (fun _ => ?_) | ((with_reducible refine And.intro ?_ ?_); focus (first | exact True.intro | omega | (simp only [InK, ne_eq, and_true, true_and]; omega) | trivial)) | (simp -dsimp only [↓RP, RQ, implies_true, forall_const, Nat.reduceMul, reduceIte, reduceCtorEq, Nat.reduceAdd, Nat.reduceEqDiff, Nat.reduceLT, Nat.reduceLeDiff, NB, NB2, NB3, NB4, NB5, Nat.add_zero, Nat.add_assoc, self_F1, self_F2, TYm, QF, fsv, B, I, by2, RZ, eq_self, TY, Try.results37])))
   all_goals first | (exfalso; omega) | skip
   exact I_eq (Mk.ckS_0 q0 fun v hv => hz3 v (by omega))
theorem c38 (M : Mk) (k : Nat) (s : Nat → Int) : Contract Try.prog 38 [M.sv, ints k s] (I (M.ckS k s)) := by
 refine contract_of Try.func38 rfl (by kernel_rfl) follows (by kernel_rfl) _ _ (by rw [Try.ntmps38]; simp) (by simp only [OldL, Mk.old, true_and]; simp [Old, ints]) ?_
 conv => arg 4; unfold Mk.sv qts ints I
 (repeat' (first | with_reducible refine splitVC_d (fun _ => ?_) (fun _ => ?_) | with_reducible refine splitVC (fun _ => ?_) (fun _ => ?_) | ((with_reducible refine And.intro ?_ ?_); focus (first | exact True.intro | omega | (simp only [InK, ne_eq, and_true, true_and]; omega) | trivial)) | (simp -dsimp only [↓RP, RQ, implies_true, forall_const, Nat.reduceMul, reduceIte, reduceCtorEq, Nat.reduceAdd, Nat.reduceEqDiff, Nat.reduceLT, Nat.reduceLeDiff, TYm, QF, fsv, B, I, by2, RZ, eq_self, TY, Try.results38])))
 refine callVC (c81 M k s) (by (simp -dsimp only [↓RP, RQ, implies_true, forall_const, Nat.reduceMul, reduceIte, reduceCtorEq, Nat.reduceAdd, Nat.reduceEqDiff, Nat.reduceLT, Nat.reduceLeDiff, Mk.sv, qts, Go.Od.ints, I]); all_goals (try simp [sub_q])) (by (simp -dsimp only [↓RP, RQ, implies_true, forall_const, Nat.reduceMul, reduceIte, reduceCtorEq, Nat.reduceAdd, Nat.reduceEqDiff, Nat.reduceLT, Nat.reduceLeDiff, fsv, I])) ?_
 by_cases q0 : M.stk k s = 0
 rotate_left
 ·(repeat' (first | with_reducible refine splitVC_d (fun _ => ?_) (fun _ => ?_) | with_reducible refine splitVC (fun _ => ?_) (fun _ => ?_) | ((with_reducible refine And.intro ?_ ?_); focus (first | exact True.intro | omega | (simp only [InK, ne_eq, and_true, true_and]; omega) | trivial)) | (simp -dsimp only [↓RP, RQ, implies_true, forall_const, Nat.reduceMul, reduceIte, reduceCtorEq, Nat.reduceAdd, Nat.reduceEqDiff, Nat.reduceLT, Nat.reduceLeDiff, TYm, QF, fsv, B, I, by2, RZ, eq_self, TY, Try.results38])))
  all_goals first | (exfalso; omega) | skip
  refine callVC (c81 M k s) (by (simp -dsimp only [↓RP, RQ, implies_true, forall_const, Nat.reduceMul, reduceIte, reduceCtorEq, Nat.reduceAdd, Nat.reduceEqDiff, Nat.reduceLT, Nat.reduceLeDiff, Mk.sv, qts, Go.Od.ints, I]); all_goals (try simp [sub_q])) (by (simp -dsimp only [↓RP, RQ, implies_true, forall_const, Nat.reduceMul, reduceIte, reduceCtorEq, Nat.reduceAdd, Nat.reduceEqDiff, Nat.reduceLT, Nat.reduceLeDiff, fsv, I])) ?_
  (repeat' (first | with_reducible refine splitVC_d (fun _ => ?_) (fun _ => ?_) | with_reducible refine splitVC (fun _ => ?_) (fun _ => ?_) | ((with_reducible refine And.intro ?_ ?_); focus (first | exact True.intro | omega | (simp only [InK, ne_eq, and_true, true_and]; omega) | trivial)) | (simp -dsimp only [↓RP, RQ, implies_true, forall_const, Nat.reduceMul, reduceIte, reduceCtorEq, Nat.reduceAdd, Nat.reduceEqDiff, Nat.reduceLT, Nat.reduceLeDiff, TYm, QF, fsv, B, I, by2, RZ, eq_self, TY, Try.results38])))
  all_goals exact I_eq (Mk.ckS_no q0)
 have ⟨he, hkm, hall⟩ := Mk.stk_iff.1 q0
 subst hkm
 have hf := Mk.fine he
 have hm12 := hf.m12
 have hr5 := hf.r5
 have hr1 := hf.r1
 rw [q0]
 (repeat' (first | with_reducible refine splitVC_d (fun _ => ?_) (fun _ => ?_) | with_reducible refine splitVC (fun _ => ?_) (fun _ => ?_) | ((with_reducible refine And.intro ?_ ?_); focus (first | exact True.intro | omega | (simp only [InK, ne_eq, and_true, true_and]; omega) | trivial)) | (simp -dsimp only [↓RP, RQ, implies_true, forall_const, Nat.reduceMul, reduceIte, reduceCtorEq, Nat.reduceAdd, Nat.reduceEqDiff, Nat.reduceLT, Nat.reduceLeDiff, TYm, QF, fsv, B, I, by2, RZ, eq_self, TY, Try.results38])))
 all_goals first | (exfalso; omega) | skip
 refine loop_vc (fun (i : Nat) => (i : Int) ≤ M.run ∧ ∀ v : Nat, v < i → 0 < netT M.q s v M.m) (fun i => ⟨[(1, .arr false false M.m 1 (fun i _ => .val (.int .i64 (s i)))), (2, .ptr 0 0), (5, .val (.int .i64 i))], [(0, boxB M)], 40⟩) (fun i => (M.run - i).toNat) 0 ⟨by omega, fun v hv => by omega⟩ (weak [] [] ?_ ?_ ?_) fun i hi => ?_
 ·(simp -dsimp only [↓RP, RQ, implies_true, forall_const, Nat.reduceMul, reduceIte, reduceCtorEq, Nat.reduceAdd, Nat.reduceEqDiff, Nat.reduceLT, Nat.reduceLeDiff]); all_goals (try simp [wk_q])
 ·(simp -dsimp only [↓RP, RQ, implies_true, forall_const, Nat.reduceMul, reduceIte, reduceCtorEq, Nat.reduceAdd, Nat.reduceEqDiff, Nat.reduceLT, Nat.reduceLeDiff]); all_goals (try simp [wk_q])
 ·(simp -dsimp only [↓RP, RQ, implies_true, forall_const, Nat.reduceMul, reduceIte, reduceCtorEq, Nat.reduceAdd, Nat.reduceEqDiff, Nat.reduceLT, Nat.reduceLeDiff]); all_goals (try simp [wk_q])
 by_cases hlt : (i : Int) < M.run
 ·(repeat' (first | with_reducible refine splitVC_d (fun _ => ?_) (fun _ => ?_) | with_reducible refine splitVC (fun _ => ?_) (fun _ => ?_) | ((with_reducible refine And.intro ?_ ?_); focus (first | exact True.intro | omega | (simp only [InK, ne_eq, and_true, true_and]; omega) | trivial)) | (simp -dsimp only [↓RP, RQ, implies_true, forall_const, Nat.reduceMul, reduceIte, reduceCtorEq, Nat.reduceAdd, Nat.reduceEqDiff, Nat.reduceLT, Nat.reduceLeDiff, TYm, QF, fsv, B, I, by2, RZ, eq_self, TY, Try.results38])))
  all_goals first | (exfalso; omega) | skip
  refine callVC (c59 M hf s hall i) (by (simp -dsimp only [↓RP, RQ, implies_true, forall_const, Nat.reduceMul, reduceIte, reduceCtorEq, Nat.reduceAdd, Nat.reduceEqDiff, Nat.reduceLT, Nat.reduceLeDiff, Mk.sv, qts, Go.Od.ints, I]); all_goals (try simp [sub_q])) (by (simp -dsimp only [↓RP, RQ, implies_true, forall_const, Nat.reduceMul, reduceIte, reduceCtorEq, Nat.reduceAdd, Nat.reduceEqDiff, Nat.reduceLT, Nat.reduceLeDiff, fsv, I])) ?_
  (repeat' (first | with_reducible refine splitVC_d (fun _ => ?_) (fun _ => ?_) | with_reducible refine splitVC (fun _ => ?_) (fun _ => ?_) | ((with_reducible refine And.intro ?_ ?_); focus (first | exact True.intro | omega | (simp only [InK, ne_eq, and_true, true_and]; omega) | trivial)) | (simp -dsimp only [↓RP, RQ, implies_true, forall_const, Nat.reduceMul, reduceIte, reduceCtorEq, Nat.reduceAdd, Nat.reduceEqDiff, Nat.reduceLT, Nat.reduceLeDiff, TYm, QF, fsv, B, I, by2, RZ, eq_self, TY, Try.results38])))
  all_goals first | (exfalso; omega) | (refine I_eq (Mk.ckS_14 q0 fun h => ?_); have h2 := h i (by omega); omega) | skip
  refine ⟨i + 1, ⟨by omega, win_of hi.2 (by omega)⟩, by omega, weak [] [] ?_ ?_ ?_⟩
  ·(simp -dsimp only [↓RP, RQ, implies_true, forall_const, Nat.reduceMul, reduceIte, reduceCtorEq, Nat.reduceAdd, Nat.reduceEqDiff, Nat.reduceLT, Nat.reduceLeDiff]); all_goals (try simp [wk_q])
  ·(simp -dsimp only [↓RP, RQ, implies_true, forall_const, Nat.reduceMul, reduceIte, reduceCtorEq, Nat.reduceAdd, Nat.reduceEqDiff, Nat.reduceLT, Nat.reduceLeDiff]); all_goals (try simp [wk_q])
  ·(simp -dsimp only [↓RP, RQ, implies_true, forall_const, Nat.reduceMul, reduceIte, reduceCtorEq, Nat.reduceAdd, Nat.reduceEqDiff, Nat.reduceLT, Nat.reduceLeDiff]); all_goals (try simp [wk_q])
 ·(repeat' (first | with_reducible refine splitVC_d (fun _ => ?_) (fun _ => ?_) | with_reducible refine splitVC (fun _ => ?_) (fun _ => ?_) | ((with_reducible refine And.intro ?_ ?_); focus (first | exact True.intro | omega | (simp only [InK, ne_eq, and_true, true_and]; omega) | trivial)) | (simp -dsimp only [↓RP, RQ, implies_true, forall_const, Nat.reduceMul, reduceIte, reduceCtorEq, Nat.reduceAdd, Nat.reduceEqDiff, Nat.reduceLT, Nat.reduceLeDiff, TYm, QF, fsv, B, I, by2, RZ, eq_self, TY, Try.results38])))
  all_goals first | (exfalso; omega) | skip
  exact I_eq (Mk.ckS_0 q0 fun v hv => hi.2 v (by omega))
end Go.Od
end
section
set_option linter.unusedSimpArgs false
set_option linter.unusedVariables false
set_option linter.defProp false
set_option maxRecDepth 100000
set_option maxHeartbeats 16000000
namespace Go.Od
open Go.Proofs
open Go.Sx
theorem TYe : True ∧ tyOf Try.prog 126 = some ⟨false, 1, some [.slice none 0 0], .slice 23 2⟩ ∧ eqInfo Try.prog 115 = some [.i .i64, .i .i64, .i .i64, .i .i64, .i .i64, .i .i64, .i .i64, .i .i64, .i .i64, .i .i64] := ⟨trivial, by kernel_rfl, by kernel_rfl⟩
def ff (a : Fr) : Nat → SV
 | 0 => .val (.int .i64 a.n)
 | _ => .val (.int .i64 a.d)
theorem FFq : True ∧ (∀ a, ff a 0 = .val (.int .i64 a.n)) ∧ (∀ a, ff a 1 = .val (.int .i64 a.d)) := ⟨trivial, fun _ => rfl, fun _ => rfl⟩
theorem sub_f (hp : List (Nat × Blk)) (a : Fr) : ∀ j, Go.Sx.Sub hp (ff a j) (ff a j)
 | 0 => by simp [ff, Go.Sx.Sub]
 | _ + 1 => by simp [ff, Go.Sx.Sub]
theorem wk_f (hp : List (Nat × Blk)) (rn : Nat → Option Nat) (n : Nat) (sl : Nat → Bool) (a : Fr) : ∀ j, Wk hp rn n sl (ff a j) (ff a j)
 | 0 => by simp [ff, Wk]
 | _ + 1 => by simp [ff, Wk]
theorem ff_old (a : Fr) : ∀ j, Old (ff a j)
 | 0 => by simp [ff, Old]
 | _ + 1 => by simp [ff, Old]
def frs (n : Nat) (f : Nat → Fr) : SV := .arr false false n 2 (fun i j => ff (f i) j)
theorem frs_old (n : Nat) (f : Nat → Fr) : Old (frs n f) := by
 simp only [frs, Old]
 exact ⟨trivial, fun i j _ _ => ff_old _ _⟩
def sumF (f : Nat → Fr) : Nat → Fr
 | 0 => ⟨0, 1⟩
 | i + 1 => plus (sumF f i) (f i)
def pw : Nat → Int
 | 0 => 1
 | i + 1 => pw i * 200
theorem pw_pos : ∀ i, 1 ≤ pw i
 | 0 => Int.le_refl 1
 | i + 1 => by have := pw_pos i; simp only [pw]; omega
theorem pw_le {i : Nat} (h : i ≤ 5) : pw i ≤ 320000000000 := by
 have : i = 0 ∨ i = 1 ∨ i = 2 ∨ i = 3 ∨ i = 4 ∨ i = 5 := by omega
 rcases this with rfl | rfl | rfl | rfl | rfl | rfl <;> decide
theorem red_bd {a : Fr} {K : Int} (hd : 0 < a.d) (h0 : 0 ≤ a.n) (h1 : a.n ≤ K * a.d) : 0 ≤ (red a).n ∧ (red a).n ≤ K * (red a).d ∧ 1 ≤ (red a).d ∧ (red a).d ≤ a.d := by
 have ⟨s1, s2, s3, s4⟩ := red_spec hd
 generalize red a = x at *
 refine ⟨?_, ?_, by omega, s4⟩
 ·refine Int.not_lt.1 fun h => ?_
  have e1 : x.n * a.d < 0 := Int.mul_neg_of_neg_of_pos h hd
  have e2 : 0 ≤ a.n * x.d := Int.mul_nonneg h0 (by omega)
  omega
 ·have e1 : a.n * x.d ≤ K * a.d * x.d := Int.mul_le_mul_of_nonneg_right h1 (by omega)
  have e2 : a.d * x.n ≤ a.d * (K * x.d) := by
   have : K * a.d * x.d = a.d * (K * x.d) := by grind
   have : a.d * x.n = x.n * a.d := Int.mul_comm _ _
   omega
  exact pos_le hd e2
theorem sumF_bd {f : Nat → Fr} : ∀ {i : Nat}, (∀ j, j < i → Ch (f j)) → 0 ≤ (sumF f i).n ∧ (sumF f i).n ≤ i * (sumF f i).d ∧ 1 ≤ (sumF f i).d ∧ (sumF f i).d ≤ pw i
 | 0, _ => ⟨Int.le_refl 0, by show (0 : Int) ≤ 0 * 1; omega, Int.le_refl 1, Int.le_refl 1⟩
 | i + 1, h => by
  have ⟨a1, a2, a3, a4⟩ := sumF_bd (f := f) (i := i) fun j hj => h j (by omega)
  have ⟨b1, b2, b3, b4⟩ := h i (by omega)
  simp only [sumF, plus, pw]
  generalize sumF f i = a at *
  generalize f i = b at *
  have p1 := Int.mul_nonneg a1 (show 0 ≤ b.d by omega)
  have p2 := Int.mul_nonneg b1 (show 0 ≤ a.d by omega)
  have p3 : 0 < a.d * b.d := Int.mul_pos (by omega) (by omega)
  have q1 : a.n * b.d ≤ i * a.d * b.d := Int.mul_le_mul_of_nonneg_right a2 (by omega)
  have q2 : b.n * a.d ≤ b.d * a.d := Int.mul_le_mul_of_nonneg_right b2 (by omega)
  have q3 : (((i + 1 : Nat)) : Int) * (a.d * b.d) = i * a.d * b.d + b.d * a.d := by
   rw [show (((i + 1 : Nat)) : Int) = (i : Int) + 1 by omega]; grind
  have q4 : a.d * b.d ≤ pw i * 200 := Int.mul_le_mul a4 b4 (by omega) (by have := pw_pos i; omega)
  have ⟨r1, r2, r3, r4⟩ := red_bd (a := ⟨a.n * b.d + b.n * a.d, a.d * b.d⟩) (K := ((i + 1 : Nat) : Int)) p3 (by show 0 ≤ a.n * b.d + b.n * a.d; omega) (by show a.n * b.d + b.n * a.d ≤ _ * (a.d * b.d); omega)
  have r4 : (red ⟨a.n * b.d + b.n * a.d, a.d * b.d⟩).d ≤ a.d * b.d := r4
  exact ⟨r1, r2, r3, by omega⟩
theorem plus_in {f : Nat → Fr} {i : Nat} (hi : i ≤ 4) (h : ∀ j, j < i + 1 → Ch (f j)) : (0 ≤ (sumF f i).n * (f i).d ∧ (sumF f i).n * (f i).d ≤ 1280000000000 * 200) ∧ (0 ≤ (f i).n * (sumF f i).d ∧ (f i).n * (sumF f i).d ≤ 200 * 320000000000) ∧ (1 ≤ (sumF f i).d * (f i).d ∧ (sumF f i).d * (f i).d ≤ 320000000000 * 200) := by
 have ⟨a1, a2, a3, a4⟩ := sumF_bd (f := f) (i := i) fun j hj => h j (by omega)
 have ⟨b1, b2, b3, b4⟩ := h i (by omega)
 have hp := pw_le (i := i) (by omega)
 have e1 : (i : Int) * (sumF f i).d ≤ 4 * 320000000000 := Int.mul_le_mul (by omega) (by omega) (by omega) (by omega)
 have p3 : 0 < (sumF f i).d * (f i).d := Int.mul_pos (by omega) (by omega)
 exact ⟨mul_in _ _ _ _ a1 (by omega) (by omega) b4, mul_in _ _ _ _ b1 (by omega) (by omega) (by omega), by omega, (mul_in (sumF f i).d (f i).d 320000000000 200 (by omega) (by omega) (by omega) b4).2⟩
theorem c99 (a b : Fr) (h1 : -4000000000000000000 ≤ a.n * b.d ∧ a.n * b.d ≤ 2000000000000000000) (h2 : -2000000000000000000 ≤ b.n * a.d ∧ b.n * a.d ≤ 2000000000000000000) (h4 : -4000000000000000000 ≤ a.n * b.d + b.n * a.d) (h3 : 1 ≤ a.d * b.d ∧ a.d * b.d ≤ 4000000000000000000) : Contract Try.prog 99 [fsv a, fsv b] (fsv (plus a b)) := by
 refine contract_of Try.func99 rfl (by kernel_rfl) follows (by kernel_rfl) _ _ (by rw [Try.ntmps99]; simp) (by simp only [OldL, fsv_old, and_self]) ?_
 unfold plus
 conv => arg 4; unfold fsv I
 (repeat' (first | with_reducible refine splitVC_d (fun _ => ?_) (fun _ => ?_) | with_reducible refine splitVC (fun _ => ?_) (fun _ => ?_) | ((with_reducible refine And.intro ?_ ?_); focus (first | exact True.intro | omega | (simp only [InK, ne_eq, and_true, true_and]; omega) | trivial)) | (simp -dsimp only [↓RP, RQ, implies_true, forall_const, Nat.reduceMul, reduceIte, reduceCtorEq, Nat.reduceAdd, Nat.reduceEqDiff, Nat.reduceLT, Nat.reduceLeDiff, TYm, TYd, TYe, QF, FFq, fsv, B, I, by2, RZ, eq_self, TY, Try.results99])))
 all_goals first | (exfalso; omega) | skip
 refine callVC (c79 ⟨a.n * b.d + b.n * a.d, a.d * b.d⟩ (by show 0 < a.d * b.d; omega) (by show a.d * b.d ≤ _; omega) (by show _ ≤ a.n * b.d + b.n * a.d; omega) (by show a.n * b.d + b.n * a.d ≤ _; omega)) (by (simp -dsimp only [↓RP, RQ, implies_true, forall_const, Nat.reduceMul, reduceIte, reduceCtorEq, Nat.reduceAdd, Nat.reduceEqDiff, Nat.reduceLT, Nat.reduceLeDiff, Go.Od.ints, I]); all_goals (try simp)) (by (simp -dsimp only [↓RP, RQ, implies_true, forall_const, Nat.reduceMul, reduceIte, reduceCtorEq, Nat.reduceAdd, Nat.reduceEqDiff, Nat.reduceLT, Nat.reduceLeDiff, fsv, I])) ?_
 (repeat' (first | with_reducible refine splitVC_d (fun _ => ?_) (fun _ => ?_) | with_reducible refine splitVC (fun _ => ?_) (fun _ => ?_) | ((with_reducible refine And.intro ?_ ?_); focus (first | exact True.intro | omega | (simp only [InK, ne_eq, and_true, true_and]; omega) | trivial)) | (simp -dsimp only [↓RP, RQ, implies_true, forall_const, Nat.reduceMul, reduceIte, reduceCtorEq, Nat.reduceAdd, Nat.reduceEqDiff, Nat.reduceLT, Nat.reduceLeDiff, TYm, TYd, TYe, QF, FFq, fsv, B, I, by2, RZ, eq_self, TY, Try.results99])))
 all_goals first | exact ⟨rfl, rfl⟩ | exact ⟨⟨rfl, rfl⟩, ⟨rfl, rfl⟩⟩ | exact ⟨⟨rfl, rfl⟩, rfl⟩ | exact ⟨⟨rfl, rfl⟩, ⟨rfl, rfl⟩, rfl⟩ | skip
theorem c101 (n : Nat) (hn : n ≤ 5) (f : Nat → Fr) (hf : ∀ j, j < n → Ch (f j)) : Contract Try.prog 101 [frs n f] (fsv (sumF f n)) := by
 refine contract_of Try.func101 rfl (by kernel_rfl) follows (by kernel_rfl) _ _ (by rw [Try.ntmps101]; simp) (by simp only [OldL, frs_old, and_self]) ?_
 conv => arg 4; unfold frs
 (repeat' (first | with_reducible refine splitVC_d (fun _ => ?_) (fun _ => ?_) | with_reducible refine splitVC (fun _ => ?_) (fun _ => ?_) | ((with_reducible refine And.intro ?_ ?_); focus (first | exact True.intro | omega | (simp only [InK, ne_eq, and_true, true_and]; omega) | trivial)) | (simp -dsimp only [↓RP, RQ, implies_true, forall_const, Nat.reduceMul, reduceIte, reduceCtorEq, Nat.reduceAdd, Nat.reduceEqDiff, Nat.reduceLT, Nat.reduceLeDiff, TYm, TYd, TYe, QF, FFq, fsv, B, I, by2, RZ, eq_self, TY, Try.results101])))
 refine loop_vc (fun i => i ≤ n) (fun i => ⟨[(0, .arr false false n 2 (fun i j => ff (f i) j)), (2, .ptr 0 0), (3, .ptr 60 0), (4, .val (.int .i64 i))], [(60, .cells 23 [.val (.int .i64 (sumF f i).n), .val (.int .i64 (sumF f i).d)]), (0, .cells 23 [.val (.int .i64 0), .val (.int .i64 0)])], 61⟩) (fun i => n - i) 0 (Nat.zero_le _) (weak [(60, some 2)] [] ?_ ?_ ?_) fun i hi => ?_
 ·(simp -dsimp only [↓RP, RQ, implies_true, forall_const, Nat.reduceMul, reduceIte, reduceCtorEq, Nat.reduceAdd, Nat.reduceEqDiff, Nat.reduceLT, Nat.reduceLeDiff]); all_goals (try simp [wk_f])
 ·(simp -dsimp only [↓RP, RQ, implies_true, forall_const, Nat.reduceMul, reduceIte, reduceCtorEq, Nat.reduceAdd, Nat.reduceEqDiff, Nat.reduceLT, Nat.reduceLeDiff, sumF]); all_goals (try simp [sumF])
 ·(simp -dsimp only [↓RP, RQ, implies_true, forall_const, Nat.reduceMul, reduceIte, reduceCtorEq, Nat.reduceAdd, Nat.reduceEqDiff, Nat.reduceLT, Nat.reduceLeDiff]); all_goals (try simp)
 by_cases hlt : i < n
 ·have ⟨⟨m1, m2⟩, ⟨m3, m4⟩, m5, m6⟩ := plus_in (f := f) (i := i) (by omega) fun j hj => hf j (by omega)
  have es : sumF f (i + 1) = red ⟨(sumF f i).n * (f i).d + (f i).n * (sumF f i).d, (sumF f i).d * (f i).d⟩ := rfl
  (repeat' (first | with_reducible refine splitVC_d (fun _ => ?_) (fun _ => ?_) | with_reducible refine splitVC (fun _ => ?_) (fun _ => ?_) | ((with_reducible refine And.intro ?_ ?_); focus (first | exact True.intro | omega | (simp only [InK, ne_eq, and_true, true_and]; omega) | trivial)) | (simp -dsimp only [↓RP, RQ, implies_true, forall_const, Nat.reduceMul, reduceIte, reduceCtorEq, Nat.reduceAdd, Nat.reduceEqDiff, Nat.reduceLT, Nat.reduceLeDiff, TYm, TYd, TYe, QF, FFq, fsv, B, I, by2, RZ, eq_self, TY, Try.results101])))
  all_goals first | (exfalso; omega) | skip
  refine callVC (c52 ⟨(sumF f i).n * (f i).d + (f i).n * (sumF f i).d, (sumF f i).d * (f i).d⟩ (by show 0 < (sumF f i).d * (f i).d; omega) (by show (sumF f i).d * (f i).d ≤ _; omega) (by show _ ≤ (sumF f i).n * (f i).d + (f i).n * (sumF f i).d; omega) (by show (sumF f i).n * (f i).d + (f i).n * (sumF f i).d ≤ _; omega)) (by (simp -dsimp only [↓RP, RQ, implies_true, forall_const, Nat.reduceMul, reduceIte, reduceCtorEq, Nat.reduceAdd, Nat.reduceEqDiff, Nat.reduceLT, Nat.reduceLeDiff, Go.Od.ints, I]); all_goals (try simp)) (by (simp -dsimp only [↓RP, RQ, implies_true, forall_const, Nat.reduceMul, reduceIte, reduceCtorEq, Nat.reduceAdd, Nat.reduceEqDiff, Nat.reduceLT, Nat.reduceLeDiff, fsv, I])) ?_
  rw [← es]
  (repeat' (first | with_reducible refine splitVC_d (fun _ => ?_) (fun _ => ?_) | with_reducible refine splitVC (fun _ => ?_) (fun _ => ?_) | ((with_reducible refine And.intro ?_ ?_); focus (first | exact True.intro | omega | (simp only [InK, ne_eq, and_true, true_and]; omega) | trivial)) | (simp -dsimp only [↓RP, RQ, implies_true, forall_const, Nat.reduceMul, reduceIte, reduceCtorEq, Nat.reduceAdd, Nat.reduceEqDiff, Nat.reduceLT, Nat.reduceLeDiff, TYm, TYd, TYe, QF, FFq, fsv, B, I, by2, RZ, eq_self, TY, Try.results101])))
  all_goals first | (exfalso; omega) | skip
  refine ⟨i + 1, by omega, by omega, weak [] [] ?_ ?_ ?_⟩
  ·(simp -dsimp only [↓RP, RQ, implies_true, forall_const, Nat.reduceMul, reduceIte, reduceCtorEq, Nat.reduceAdd, Nat.reduceEqDiff, Nat.reduceLT, Nat.reduceLeDiff]); all_goals (try simp [wk_f])
  ·(simp -dsimp only [↓RP, RQ, implies_true, forall_const, Nat.reduceMul, reduceIte, reduceCtorEq, Nat.reduceAdd, Nat.reduceEqDiff, Nat.reduceLT, Nat.reduceLeDiff]); all_goals (try simp [wk_f])
  ·(simp -dsimp only [↓RP, RQ, implies_true, forall_const, Nat.reduceMul, reduceIte, reduceCtorEq, Nat.reduceAdd, Nat.reduceEqDiff, Nat.reduceLT, Nat.reduceLeDiff]); all_goals (try simp)
 ·have e : i = n := by omega
  subst e
  (repeat' (first | with_reducible refine splitVC_d (fun _ => ?_) (fun _ => ?_) | with_reducible refine splitVC (fun _ => ?_) (fun _ => ?_) | ((with_reducible refine And.intro ?_ ?_); focus (first | exact True.intro | omega | (simp only [InK, ne_eq, and_true, true_and]; omega) | trivial)) | (simp -dsimp only [↓RP, RQ, implies_true, forall_const, Nat.reduceMul, reduceIte, reduceCtorEq, Nat.reduceAdd, Nat.reduceEqDiff, Nat.reduceLT, Nat.reduceLeDiff, TYm, TYd, TYe, QF, FFq, fsv, B, I, by2, RZ, eq_self, TY, Try.results101])))
  all_goals first | (exfalso; omega) | skip
  all_goals first | exact ⟨rfl, rfl⟩ | exact ⟨⟨rfl, rfl⟩, ⟨rfl, rfl⟩⟩ | exact ⟨⟨rfl, rfl⟩, rfl⟩ | exact ⟨⟨rfl, rfl⟩, ⟨rfl, rfl⟩, rfl⟩ | skip
end Go.Od
end
