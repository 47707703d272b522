/- The proof engine. -/
import Derived.Orders
import Derived.OrdersIn
import Derived.TacticsIn
import Derived.RangeFuncLeaves
import Derived.RangeFuncRecord
import Derived.Test.YtpdebflfimmnpaaEA
section
set_option linter.unusedVariables false
set_option linter.unusedSimpArgs false
namespace Go.Sx
open Go.RowKit
def fillS (place : Nat → Option (Nat × Nat)) : List SV → List (Nat × SV) → Option (List SV)
 | cells, [] => some cells
 | cells, (i, sv) :: rest => match place i with
  | none => none
  | some (o, s) => match sv with
   | .agg l => if l.length = s ∧ o + s ≤ cells.length then fillS place (cells.take o ++ l ++ cells.drop (o + s)) rest else none
   | sv => if oneCell sv = true ∧ s = 1 ∧ o + 1 ≤ cells.length then fillS place (cells.set o sv) rest else none
def placesOf (P : Program) (t : TypeId) : Option (List (Nat × Nat)) :=
 match P.underlying t with
 | some (.struct fields) => fields.toList.mapM (fun f => (P.info? f.type).map fun i => (f.offset, i.size))
 | some (.array n e) => (P.info? e).map fun i => (List.range n).map fun j => (j * i.size, i.size)
 | _ => none
def rBuild (P : Program) (t : TypeId) (parts : List (Nat × SV)) : Res :=
 match tyOf P t with
 | some ⟨true, _, some z, _⟩ => match placesOf P t with
  | some pl => match fillS (fun i => pl[i]?) (vals z) parts with
   | some l => .pure True (.agg l)
   | none => .bad
  | none => .bad
 | _ => .bad
def zrep (z : List Value) : Nat → List SV
 | 0 => []
 | n + 1 => vals z ++ zrep z n
def rBuildSlice (P : Program) (t : TypeId) (len : Nat) (parts : List (Nat × SV)) : Res :=
 match tyOf P t with
 | some ⟨_, _, _, .slice e k⟩ => match tyOf P e with
  | some ⟨_, _, some z, _⟩ => match fillS (fun i => some (i * k, k)) (zrep z len) parts with
   | some l => .new (z.length = k ∧ 0 < k ∧ len * k ≤ 16777216) (.rows e k len (fun i j => l.getD (i * k + j) .top)) (fun id => .vec id len k)
   | none => .bad
  | _ => .bad
 | _ => .bad
section
variable {P : Program} {base : World} {okc : Nat → Prop} {r : Nat → Option Nat} {N : Nat → Prop} {G : Bool → Nat → Prop} {w : World} {hp : List (Nat × Blk)}
def RepC (r : Nat → Option Nat) (N : Nat → Prop) (G : Bool → Nat → Prop) (w : World) (l : List SV) (cs : Array Value) : Prop := l.length = cs.size ∧ ∀ i sv, l[i]? = some sv → Rep r N G w sv (cs.getD i undef)
theorem foldl_set (off : Nat) : ∀ (vs : List Value) (k : Nat) (cells : Array Value), off + k + vs.length ≤ cells.size →
  ((vs.zipIdx k).foldl (fun cs (c, j) => cs.setIfInBounds (off + j) c) cells).size = cells.size ∧
  ∀ x, ((vs.zipIdx k).foldl (fun cs (c, j) => cs.setIfInBounds (off + j) c) cells).getD x undef = if off + k ≤ x ∧ x < off + k + vs.length then vs.getD (x - (off + k)) undef else cells.getD x undef
 | [], k, cells, h => ⟨rfl, fun x => by rw [if_neg (by simp)]; rfl⟩
 | v :: vs, k, cells, h => by
  simp only [List.zipIdx_cons, List.foldl_cons]
  simp only [List.length_cons] at h
  obtain ⟨h1, h2⟩ := foldl_set off vs (k + 1) (cells.setIfInBounds (off + k) v) (by simp; omega)
  refine ⟨by rw [h1]; simp, fun x => ?_⟩
  rw [h2]
  simp only [List.length_cons]
  by_cases e : x = off + k
  ·subst e
   rw [if_neg (by omega), if_pos (by omega)]
   have : off + k < cells.size := by omega
   simp [Array.getD_eq_getD_getElem?, Array.getElem?_setIfInBounds, this]
  ·by_cases e' : off + (k + 1) ≤ x ∧ x < off + (k + 1) + vs.length
   ·rw [if_pos e', if_pos (by omega)]
    have : x - (off + k) = (x - (off + (k + 1))) + 1 := by omega
    rw [this]; rfl
   ·rw [if_neg e', if_neg (by omega)]
    simp only [Array.getD_eq_getD_getElem?, Array.getElem?_setIfInBounds]
    rw [if_neg (by omega)]
theorem foldl_zip (off : Nat) (vs cells : Array Value) : vs.zipIdx.foldl (fun cs (c, j) => cs.setIfInBounds (off + j) c) cells = (vs.toList.zipIdx 0).foldl (fun cs (c, j) => cs.setIfInBounds (off + j) c) cells := by
 rw [← Array.foldl_toList]
 congr 1
 simp
theorem fill_spec {place place' : Nat → Option (Nat × Nat)} (hp : ∀ i x, place i = some x → place' i = some x) : ∀ (parts : List (Nat × SV)) (vparts : List (Nat × Value)) (cells l : List SV) (cs : Array Value), fillS place cells parts = some l → RepC r N G w cells cs →
  parts.length = vparts.length → (∀ (i : Nat) p q, parts[i]? = some p → vparts[i]? = some q → p.1 = q.1 ∧ Rep r N G w p.2 q.2) → ∃ cs', Instr.fill place' cs vparts = some cs' ∧ RepC r N G w l cs'
 | [], vparts, cells, l, cs, h, hc, hl, hr => by
  simp only [fillS, Option.some.injEq] at h
  subst h
  cases vparts with
  | nil => exact ⟨cs, rfl, hc⟩
  | cons => simp at hl
 | (i, sv) :: parts, vparts, cells, l, cs, h, hc, hl, hr => by
  cases vparts with
  | nil => simp at hl
  | cons q vparts =>
   obtain ⟨i', v⟩ := q
   obtain ⟨e1, hv⟩ := hr 0 _ _ rfl rfl
   simp only at e1 hv
   subst e1
   have hr' : ∀ (j : Nat) p q, parts[j]? = some p → vparts[j]? = some q → p.1 = q.1 ∧ Rep r N G w p.2 q.2 := fun j p q h1 h2 => hr (j + 1) p q (by simpa using h1) (by simpa using h2)
   simp only [fillS] at h
   cases hpl : place i with
   | none => rw [hpl] at h; cases h
   | some os =>
    obtain ⟨o, s⟩ := os
    rw [hpl] at h
    have hpl' := hp _ _ hpl
    have key : ∀ (vc : List SV) (mid : List SV), RepC r N G w vc v.cells → vc.length = s → o + s ≤ cells.length → mid = cells.take o ++ vc ++ cells.drop (o + s) → fillS place mid parts = some l → ∃ cs', Instr.fill place' cs ((i, v) :: vparts) = some cs' ∧ RepC r N G w l cs' := by
     intro vc mid hvc hs hle hmid hfill
     have hvs : v.cells.size = s := hvc.1.symm.trans hs
     have hcs : cells.length = cs.size := hc.1
     obtain ⟨g1, g2⟩ := foldl_set o v.cells.toList 0 cs (by simp; omega)
     rw [← foldl_zip] at g1 g2
     obtain ⟨cs', h1, h2⟩ := fill_spec hp parts vparts mid l _ hfill ⟨by rw [g1, hmid]; simp; omega, fun x sv hx => by
      rw [g2, Nat.add_zero]
      have hvl : v.cells.toList.length = s := by simp [hvs]
      rw [hvl]
      subst hmid
      by_cases hj : o ≤ x ∧ x < o + s
      ·rw [List.append_assoc, List.getElem?_append_right (by simp; omega), List.getElem?_append_left (by simp; omega)] at hx
       have : min o cells.length = o := by omega
       rw [List.length_take, this] at hx
       rw [if_pos hj]
       have := hvc.2 _ _ hx
       simpa using this
      ·rw [if_neg hj]
       refine hc.2 x sv ?_
       by_cases hj' : x < o
       ·rw [List.append_assoc, List.getElem?_append_left (by simp; omega), List.getElem?_take_of_lt hj'] at hx
        exact hx
       ·rw [List.getElem?_append_right (by simp; omega), List.getElem?_drop] at hx
        have e : o + s + (x - (cells.take o ++ vc).length) = x := by simp; omega
        rwa [e] at hx⟩ (by simpa using hl) hr'
     refine ⟨cs', ?_, h2⟩
     simp only [Instr.fill, hpl']
     rw [if_neg (by rw [hvs]; simp; omega)]
     exact h1
    have key1 : oneCell sv = true → s = 1 → o + 1 ≤ cells.length → fillS place (cells.set o sv) parts = some l → ∃ cs', Instr.fill place' cs ((i, v) :: vparts) = some cs' ∧ RepC r N G w l cs' := by
     rintro h1 rfl h3 h
     have hvc : v.cells = #[v] := cells_one (hv.one h1)
     refine key [sv] _ ⟨by rw [hvc]; rfl, fun x s hx => ?_⟩ rfl h3 ?_ h
     ·rw [hvc]
      cases x with
      | zero => simp at hx; subst hx; exact hv
      | succ x => simp at hx
     ·rw [List.set_eq_take_append_cons_drop, if_pos (by omega)]
      simp
    cases sv with
    | agg vc =>
     simp only at h
     split at h
     ·rename_i hh
      cases hv with
      | agg _ vcs hl' hr'' => exact key vc _ ⟨hl', hr''⟩ hh.1 hh.2 rfl h
     ·cases h
    | _ =>
     simp only at h
     split at h
     ·rename_i hh
      exact key1 hh.1 hh.2.1 hh.2.2 h
     ·cases h
theorem repC_vals (z : Value) : RepC r N G w (vals z.cells.toList) z.cells := by
 refine ⟨by simp [vals_length], fun i sv hi => ?_⟩
 rw [vals_get] at hi
 cases hv' : z.cells.toList[i]? with
 | none => simp [hv'] at hi
 | some u =>
  simp only [hv', Option.map_some, Option.some.injEq] at hi
  subst hi
  have : z.cells.getD i undef = u := by simp at hv'; simp [hv']
  rw [this]; exact .val u
theorem run_buildS {t : TypeId} {parts : List (Nat × SV)} {vparts : Array (Nat × Value)} (hl : parts.length = vparts.toList.length) (hr : ∀ (i : Nat) p q, parts[i]? = some p → vparts.toList[i]? = some q → p.1 = q.1 ∧ Rep r N G w p.2 q.2) :
  Good P r N G w (Instr.build t vparts) (rBuild P t parts) := by
 unfold rBuild
 split
 rotate_left
 ·trivial
 rename_i sz z d ht
 split
 rotate_left
 ·trivial
 rename_i pl hpl
 split
 rotate_left
 ·trivial
 rename_i l hf
 intro _
 obtain ⟨i, d', hi, hd', e⟩ := tyOf_some ht
 simp only [TyI.mk.injEq] at e
 obtain ⟨_, _, e3, _⟩ := e
 obtain ⟨zv, hz, rfl⟩ := zero_of hi ht
 unfold placesOf at hpl
 split at hpl
 ·rename_i fields hu
  obtain ⟨cs', h1, h2⟩ := fill_spec (r := r) (N := N) (G := G) (w := w) (place := fun i => pl[i]?) (place' := (pl.toArray[·]?)) (fun i x h => by simpa using h) parts vparts.toList _ l zv.cells hf (repC_vals zv) hl hr
  refine ⟨_, run_build w t vparts cs' ?_, .agg _ _ h2.1 h2.2⟩
  simp only [Program.built, hi, hu, hz, hpl, h1]
 ·rename_i n e hu
  cases hie : P.info? e with
  | none => rw [hie] at hpl; simp at hpl
  | some ie =>
   rw [hie] at hpl
   simp only [Option.map_some, Option.some.injEq] at hpl
   subst hpl
   obtain ⟨cs', h1, h2⟩ := fill_spec (r := r) (N := N) (G := G) (w := w) (place := fun i => ((List.range n).map fun j => (j * ie.size, ie.size))[i]?) (place' := fun i => some (i * ie.size, ie.size)) (fun i x h => by
    simp only [List.getElem?_map, Option.map_eq_some_iff] at h
    obtain ⟨a, ha, rfl⟩ := h
    have := List.getElem?_eq_some_iff.1 ha
    obtain ⟨h1, h2⟩ := this
    simp at h2
    rw [h2]) parts vparts.toList _ l zv.cells hf (repC_vals zv) hl hr
   refine ⟨_, run_build w t vparts cs' ?_, .agg _ _ h2.1 h2.2⟩
   simp [Program.built, hi, hu, hz, hie, h1]
 ·cases hpl
theorem zrep_length (z : List Value) (n : Nat) : (zrep z n).length = n * z.length := by
 induction n with
 | zero => simp [zrep]
 | succ n ih => simp [zrep, vals_length, ih, Nat.succ_mul, Nat.add_comm]
theorem zrep_get (z : List Value) (n x : Nat) (h : x < n * z.length) : (zrep z n)[x]? = some (.val (z.getD (x % z.length) undef)) := by
 induction n generalizing x with
 | zero => simp at h
 | succ n ih =>
  simp only [zrep]
  by_cases hx : x < z.length
  ·rw [List.getElem?_append_left (by rw [vals_length]; exact hx), vals_get, Nat.mod_eq_of_lt hx]
   simp [hx]
  ·rw [List.getElem?_append_right (by rw [vals_length]; omega), vals_length, ih _ (by rw [Nat.succ_mul] at h; omega)]
   have : x % z.length = (x - z.length) % z.length := by
    conv => lhs; rw [show x = (x - z.length) + z.length by omega]
    rw [Nat.add_mod_right]
   rw [this]
theorem fillS_nil {place : Nat → Option (Nat × Nat)} {p : Nat × SV} {rest : List (Nat × SV)} {b : List SV} (h : fillS place [] (p :: rest) = some b) (hp : ∀ x, place p.1 = some x → 0 < x.2) : False := by
 obtain ⟨i, sv⟩ := p
 simp only [fillS] at h
 cases hpl : place i with
 | none => rw [hpl] at h; cases h
 | some os =>
  obtain ⟨o, s⟩ := os
  have hs := hp _ hpl
  simp only at hs
  rw [hpl] at h
  cases sv <;> simp only [List.length_nil] at h <;> (split at h <;> first | cases h | omega)
theorem run_buildSliceS (h : Sat base okc r N hp w) (t : TypeId) (len : Nat) {parts : List (Nat × SV)} {vparts : Array (Nat × Value)} (hl : parts.length = vparts.toList.length) (hr : ∀ (i : Nat) p q, parts[i]? = some p → vparts.toList[i]? = some q → p.1 = q.1 ∧ Rep r N (Gd base okc r N hp w) w p.2 q.2) :
  GoodN P base okc r N hp w (Instr.buildSlice t len vparts) (rBuildSlice P t len parts) := by
 unfold rBuildSlice
 split
 rotate_left
 ·trivial
 rename_i ag sz z0 e k ht
 obtain ⟨hte, i, hi, hk⟩ := slice_of' ht
 split
 rotate_left
 ·trivial
 rename_i ag' sz' z d hte'
 obtain ⟨zv, hz, rfl⟩ := zero_of hi hte'
 split
 rotate_left
 ·trivial
 rename_i l hf
 rintro ⟨h1, h2, h3⟩ id hp' hid hat hoth
 subst hk
 have hzs : zv.cells.size = i.size := by simpa using h1
 by_cases hlen : len = 0
 ·subst hlen
  have hl0 : l.length = 0 ∧ parts = [] := by
   cases parts with
   | nil => simp only [fillS, zrep, Option.some.injEq] at hf; subst hf; exact ⟨rfl, rfl⟩
   | cons p parts =>
    exfalso
    exact fillS_nil hf fun x hx => by simp only [Option.some.injEq] at hx; rw [← hx]; exact h2
  obtain ⟨hl0, rfl⟩ := hl0
  have hvp : vparts = #[] := by
   cases vparts with
   | mk l => have := List.eq_nil_of_length_eq_zero hl.symm; simp at this; simp [this]
  subst hvp
  have hrun : (Instr.buildSlice t 0 #[]).run P w = .ok (.slice (some ⟨w.heap.size, 0, none⟩) 0 0) (w.alloc (.cells #[] e)) := by
   simp [Instr.buildSlice, run_underlying hte, sizeOf, typeInfo, hi, Instr.fill, newRow, Array.range_zero']
  have hst := h.new id hid (.cells #[] e) _ hat hoth fun r' N' G' _ _ _ _ _ => .rows _ _ _ _ _ _ (heap_alloc_at w _) (by simp) fun x j hx hj => by omega
  exact ⟨_, _, _, hrun, hst, .vec _ _ _ _ _ _ _ (.inr rfl) (upd_same _ _ _) (heap_alloc_at w _) (by simp) (Nat.le_refl _) (by simp)⟩
 ·have hpos : ¬ len * i.size = 0 := by
   intro e0
   rcases Nat.mul_eq_zero.1 e0 with e0 | e0 <;> omega
  have hzc : RepC r N (Gd base okc r N hp w) w (zrep zv.cells.toList len) ((Array.range (len * i.size)).map (zv.cells[· % zv.cells.size]!)) := by
   refine ⟨by rw [zrep_length]; simp [hzs], fun x sv hx => ?_⟩
   have hlt : x < len * i.size := by
    have := (List.getElem?_eq_some_iff.1 hx).1
    rw [zrep_length] at this; simpa [hzs] using this
   rw [zrep_get _ _ _ (by simpa [hzs] using hlt)] at hx
   cases hx
   have hm : x % zv.cells.size < zv.cells.size := Nat.mod_lt _ (by omega)
   have e1 : ((Array.range (len * i.size)).map (zv.cells[· % zv.cells.size]!)).getD x undef = zv.cells.toList.getD (x % zv.cells.toList.length) undef := by
    simp [hlt, hm]
   rw [e1]; exact .val _
  obtain ⟨cs', hf1, hf2⟩ := fill_spec (place := fun j => some (j * i.size, i.size)) (place' := fun j => some (j * i.size, i.size)) (fun _ _ h => h) parts vparts.toList _ l _ hf hzc hl hr
  have hsz : cs'.size = len * i.size := by
   have hlen' : ∀ (ps : List (Nat × SV)) (a b : List SV), fillS (fun j => some (j * i.size, i.size)) a ps = some b → b.length = a.length := by
    intro ps
    induction ps with
    | nil => intro a b hab; simp only [fillS, Option.some.injEq] at hab; rw [hab]
    | cons p ps ih =>
     intro a b hab
     obtain ⟨pi, psv⟩ := p
     simp only [fillS] at hab
     split at hab
     ·split at hab
      ·rename_i hh
       rw [ih _ _ hab]
       simp; omega
      ·cases hab
     ·split at hab
      ·rw [ih _ _ hab]; simp
      ·cases hab
   rw [← hf2.1, hlen' _ _ _ hf, zrep_length]; simp [hzs]
  have hrun := run_buildSlice (P := P) w t e len vparts cs' i zv hte hi hz (by omega) hpos hf1
  have hst := h.new id hid (.cells cs' e) _ hat hoth fun r' N' G' g1 g2 g3 g4 g5 => .rows _ _ _ _ _ _ (heap_alloc_at w _) (by rw [hsz]; exact Nat.le_refl _) fun x j hx hj => by
   have hlt := row_lt hx hj
   have hll : x * i.size + j < l.length := by rw [hf2.1, hsz]; exact hlt
   have := hf2.2 (x * i.size + j) (l.getD (x * i.size + j) .top) (by simp [hll])
   exact this.mono g1 g3 (fun o b hb => ⟨g5 o b hb, heap_alloc_old w _ hb.1⟩) (Shapes.alloc w _)
  exact ⟨_, _, _, hrun, hst, .vec _ _ _ _ _ _ _ (.inr rfl) (upd_same _ _ _) (heap_alloc_at w _) hsz (Nat.le_refl _) (by
   have : len ≤ len * i.size := Nat.le_mul_of_pos_right _ h2
   simp [maxLen]; omega)⟩
end
end Go.Sx
end
section
set_option linter.unusedVariables false
set_option linter.unusedSimpArgs false
namespace Go.Sx
open Go.RowKit
def keyFit (ag : Bool) (ls : List Lf) (v : Value) : Bool :=
 match ag with
 | true => match v with | .agg cs => fitL ls cs.toList | _ => false
 | false => fitL ls [v]
def seqV : Value → Value → Bool
 | .int k a, .int k' b => decide (k = k') && decide (a = b)
 | .bool a, .bool b => decide (a = b)
 | _, _ => false
def seqVs : List Value → List Value → Bool
 | [], [] => true
 | v :: l, u :: m => seqV v u && seqVs l m
 | _, _ => false
def eqK (v u : Value) : Bool :=
 match v, u with
 | .agg a, .agg b => seqVs a.toList b.toList
 | a, b => seqV a b
theorem seqV_eq {v u : Value} (h : seqV v u = true) : v = u := by
 cases v <;> cases u <;> simp [seqV] at h <;> simp [h]
theorem seqVs_eq : ∀ {x y : List Value}, seqVs x y = true → x = y
 | [], [], _ => rfl
 | [], _ :: _, h => by simp [seqVs] at h
 | _ :: _, [], h => by simp [seqVs] at h
 | v :: x, u :: y, h => by
  simp only [seqVs, Bool.and_eq_true] at h
  rw [seqV_eq h.1, seqVs_eq h.2]
theorem eqK_eq {v u : Value} (h : eqK v u = true) : v = u := by
 unfold eqK at h
 split at h
 ·rename_i a b
  have := seqVs_eq h
  rw [Array.toList_inj.1 this]
 ·exact seqV_eq h
theorem seqV_fit {f : Lf} {v u : Value} (hv : lfOk f v = true) (hu : lfOk f u = true) : seqV v u = eqV v u := by
 cases f <;> cases v <;> simp [lfOk] at hv <;> cases u <;> simp [lfOk] at hu
 ·subst hv; subst hu; simp [seqV, eqV]
 ·simp [seqV, eqV]
theorem seqVs_fit : ∀ {l : List Lf} {x y : List Value}, fitL l x = true → fitL l y = true → seqVs x y = eqVs x y
 | [], [], [], _, _ => rfl
 | [], _ :: _, _, h, _ => by simp [fitL] at h
 | [], [], _ :: _, _, h => by simp [fitL] at h
 | _ :: _, [], _, h, _ => by simp [fitL] at h
 | _ :: _, _ :: _, [], _, h => by simp [fitL] at h
 | f :: l, v :: x, u :: y, h, h' => by
  simp only [fitL, Bool.and_eq_true] at h h'
  simp only [seqVs, eqVs, seqV_fit h.1 h'.1, seqVs_fit h.2 h'.2]
def keyInfo (P : Program) (kt : TypeId) : Option (Bool × List Lf) :=
 match P.underlying kt with
 | some d => match leaves P 12 kt with | some ls => some (isAggD d, ls) | none => none
 | none => none
def keyVs : List SV → Option (List Value)
 | [] => some []
 | .val v :: l => match keyVs l with | some m => some (v :: m) | none => none
 | _ => none
def keyV : SV → Option Value
 | .val v => some v
 | .agg l => match keyVs l with | some m => some (.agg m.toArray) | none => none
 | _ => none
section
variable {P : Program}
theorem keyFit_mk {kt : TypeId} {ag : Bool} {ls : List Lf} (h : keyInfo P kt = some (ag, ls)) {v : Value} (hv : keyFit ag ls v = true) : ∃ d x, P.underlying kt = some d ∧ isAggD d = ag ∧ leaves P 12 kt = some ls ∧ fitL ls x = true ∧ v = mkV P kt x ∧ (ag = true → v = .agg x.toArray) ∧ (ag = false → x = [v]) := by
 unfold keyInfo at h
 cases hu : P.underlying kt with
 | none => simp [hu] at h
 | some d =>
  rw [hu] at h
  cases hl : leaves P 12 kt with
  | none => simp [hl] at h
  | some l =>
   simp only [hl, Option.some.injEq, Prod.mk.injEq] at h
   obtain ⟨rfl, rfl⟩ := h
   cases hd : isAggD d with
   | true =>
    rw [hd] at hv
    cases v <;> simp only [keyFit, Bool.false_eq_true] at hv
    rename_i cs
    exact ⟨d, cs.toList, rfl, hd, rfl, hv, by simp [mkV, hu, hd], by simp, by simp⟩
   | false =>
    rw [hd] at hv
    exact ⟨d, [v], rfl, hd, rfl, hv, by simp [mkV, hu, hd], by simp, by simp⟩
theorem eqK_mk {kt : TypeId} {x y : List Value} {ls : List Lf} {d : TypeDesc} (hu : P.underlying kt = some d) (hl : leaves P 12 kt = some ls) (hx : fitL ls x = true) (hy : fitL ls y = true) : eqK (mkV P kt x) (mkV P kt y) = eqVs x y := by
 obtain ⟨d', hu', h1⟩ := leaves_under hl
 rw [hu] at hu'; cases hu'
 cases hd : isAggD d with
 | true => simp [mkV, hu, hd, eqK, seqVs_fit hx hy]
 | false =>
  have := h1 hd
  have hxl := fitL_length hx
  have hyl := fitL_length hy
  match x, y, hxl, hyl with
  | [v], [u], _, _ =>
   simp only [mkV, hu, hd, Bool.false_eq_true, if_false, List.headD_cons, eqVs, Bool.and_true]
   match ls, this with
   | [f], _ =>
    simp only [fitL, Bool.and_true] at hx hy
    cases f <;> cases v <;> simp [lfOk] at hx <;> cases u <;> simp [lfOk] at hy <;> simp [eqK, seqV, eqV]
    intro _; rw [← hx, ← hy]
  | [], _, h, _ => simp at h; omega
  | _ :: _ :: _, _, h, _ => simp at h; omega
  | [_], [], _, h => simp at h; omega
  | [_], _ :: _ :: _, _, h => simp at h; omega
theorem eqK_iff {kt : TypeId} {ag : Bool} {ls : List Lf} (h : keyInfo P kt = some (ag, ls)) {v u : Value} (hv : keyFit ag ls v = true) (hu : keyFit ag ls u = true) : eqK v u = true ↔ v = u := by
 obtain ⟨d, x, hd, ha, hl, hx, rfl, h1, h1'⟩ := keyFit_mk h hv
 obtain ⟨d', y, hd', ha', hl', hy, rfl, h2, h2'⟩ := keyFit_mk h hu
 rw [eqK_mk hd hl hx hy, eqVs_iff hx hy]
 constructor
 ·rintro rfl; rfl
 ·intro e
  cases ag with
  | true =>
   have e1 := h1 rfl
   have e2 := h2 rfl
   rw [e1, e2] at e
   simpa using e
  | false =>
   rw [h1' rfl, h2' rfl, e]
theorem run_keyEq {kt : TypeId} {ag : Bool} {ls : List Lf} (h : keyInfo P kt = some (ag, ls)) {v u : Value} (hv : keyFit ag ls v = true) (hu : keyFit ag ls u = true) (w : World) : (Op.equal kt v u).run P w = .ok (eqK v u) w := by
 obtain ⟨d, x, hd, ha, hl, hx, rfl, h1, h1'⟩ := keyFit_mk h hv
 obtain ⟨d', y, hd', ha', hl', hy, rfl, h2, h2'⟩ := keyFit_mk h hu
 rw [eqK_mk hd hl hx hy]
 exact eqS (P := P) 12 9988 kt ls hl w x y hx hy
def CheckS (P : Program) (dd : Nat) (t : TypeId) (l : List Lf) : Prop := ∀ (e : Bool) (w : World) (x : List Value), fitL l x = true → (Instr.checkKey e dd t (mkV P t x)).run P w = .ok () w
theorem checkF (e : Bool) (dd : Nat) {g : TypeId → Option (List Lf)} (m : Nat) (hg : ∀ t l, g t = some l → leaves P m t = some l ∧ CheckS P dd t l) : ∀ (fs : List Field) (o : Nat) (l : List Lf), leavesF g P fs o = some l →
  ∀ (w : World) (a x : List Value), a.length = o → fitL l x = true →
  (forIn fs PUnit.unit (fun f _ => if f.name ≠ "_" then do Instr.checkKey e dd f.type (← part f.type (a ++ x).toArray f.offset); pure (ForInStep.yield PUnit.unit) else pure (ForInStep.yield PUnit.unit)) : Sem PUnit).run P w = .ok PUnit.unit w
 | [], o, l, h, w, a, x, ha, hx => by simp
 | f :: fs, o, l, h, w, a, x, ha, hx => by
  simp only [leavesF] at h
  split at h
  ·rename_i hf
   cases hgl : g f.type with
   | none => rw [hgl] at h; cases h
   | some l1 =>
    rw [hgl] at h
    simp only [] at h
    split at h
    ·rename_i hsz
     cases hl2 : leavesF g P fs (o + l1.length) with
     | none => rw [hl2] at h; cases h
     | some l2 =>
      rw [hl2] at h
      simp only [Option.some.injEq] at h
      subst h
      obtain ⟨x1, x2, rfl, hx1, hx2⟩ := fitL_split hx
      obtain ⟨h1, h2⟩ := hg _ _ hgl
      have l1x := fitL_length hx1
      have p1 := run_part h1 hsz a x1 x2 l1x w
      have p3 := h2 e w x1 hx1
      have ih := checkF e dd m hg fs (o + l1.length) l2 hl2 w (a ++ x1) x2 (by simp [ha, l1x]) hx2
      rw [List.append_assoc] at ih
      have ea : f.offset = a.length := by rw [ha]; exact hf.2
      simp only [List.forIn_cons, if_pos hf.1, Sem.run_bind]
      rw [ea, p1]
      simp only [Result.andThen_ok, p3, Sem.run_pure]
      exact ih
    ·cases h
  ·cases h
theorem checkI (e : Bool) (dd : Nat) {t : TypeId} {m : Nat} {l : List Lf} (he : leaves P m t = some l) (hs : P.cellsOf t = l.length) {i0 : TypeInfo} (hi0 : P.info? t = some i0) (hE : CheckS P dd t l) : ∀ (n i : Nat) (w : World) (a x : List Value), a.length = i * l.length →
  fitL (repL n l) x = true → (forIn (List.range' i n) PUnit.unit (fun i _ => do Instr.checkKey e dd t (← part t (a ++ x).toArray (i * (← sizeOf t))); pure (ForInStep.yield PUnit.unit)) : Sem PUnit).run P w = .ok PUnit.unit w
 | 0, i, w, a, x, ha, hx => by simp
 | n + 1, i, w, a, x, ha, hx => by
  simp only [repL] at hx
  obtain ⟨x1, x2, rfl, hx1, hx2⟩ := fitL_split hx
  have l1x := fitL_length hx1
  have p1 := run_part he hs a x1 x2 l1x w
  have p3 := hE e w x1 hx1
  have ih := checkI e dd he hs hi0 hE n (i + 1) w (a ++ x1) x2 (by simp [ha, l1x, Nat.succ_mul]) hx2
  rw [List.append_assoc] at ih
  have ea : i * i0.size = a.length := by rw [ha, ← hs]; simp [Program.cellsOf, hi0]
  simp only [List.range'_succ, List.forIn_cons, Sem.run_bind, run_sizeOf_info hi0, Result.andThen_ok]
  rw [ea, p1]
  simp only [Result.andThen_ok, p3, Sem.run_pure]
  exact ih
theorem checkS : ∀ (m d : Nat) (t : TypeId) (l : List Lf), leaves P m t = some l → CheckS P (d + m) t l
 | 0, d, t, l, h => by simp [leaves] at h
 | m + 1, d, t, l, h => by
  intro e w x hx
  unfold leaves at h
  cases hu : P.underlying t with
  | none => simp [hu] at h
  | some D =>
   rw [hu] at h
   cases D <;> simp only [reduceCtorEq] at h
   case int k =>
    cases h
    obtain ⟨n, rfl⟩ := fit_mk_int hx
    simp only [mkV, hu, isAggD, Bool.false_eq_true, if_false, List.headD_cons]
    simp [show d + (m + 1) = (d + m) + 1 from rfl, Instr.checkKey, run_underlying hu]
   case bool =>
    cases h
    obtain ⟨n, rfl⟩ := fit_mk_bool hx
    simp only [mkV, hu, isAggD, Bool.false_eq_true, if_false, List.headD_cons]
    simp [show d + (m + 1) = (d + m) + 1 from rfl, Instr.checkKey, run_underlying hu]
   case struct fs =>
    split at h
    ·rename_i hst
     simp only [mkV, hu, isAggD, if_true]
     have := checkF (P := P) e (d + m) m (fun t l ht => ⟨ht, checkS m d t l ht⟩) fs.toList 0 l h w [] x rfl hx
     simp only [show d + (m + 1) = (d + m) + 1 from rfl, Instr.checkKey, Sem.run_bind, run_underlying hu, Result.andThen_ok]
     rw [← Array.forIn_toList]
     simp at this ⊢
     rw [this]; rfl
    ·cases h
   case array n e' =>
    cases hl : leaves P m e' with
    | none => rw [hl] at h; cases h
    | some l1 =>
     rw [hl] at h
     simp only [] at h
     split at h
     ·rename_i hc
      cases h
      obtain ⟨i, hi⟩ := Option.isSome_iff_exists.1 hc.2
      simp only [mkV, hu, isAggD, if_true]
      have := checkI (P := P) e (d + m) hl hc.1 hi (checkS m d e' l1 hl) n 0 w [] x (by simp) hx
      simp only [show d + (m + 1) = (d + m) + 1 from rfl, Instr.checkKey, Sem.run_bind, run_underlying hu, Result.andThen_ok]
      simp only [Std.Legacy.Range.forIn_eq_forIn_range', Std.Legacy.Range.size, Nat.sub_zero, Nat.add_one_sub_one, Nat.div_one]
      simp at this ⊢
      rw [this]; rfl
     ·cases h
theorem run_checkK {kt : TypeId} {ag : Bool} {ls : List Lf} (h : keyInfo P kt = some (ag, ls)) {v : Value} (hv : keyFit ag ls v = true) (e : Bool) (w : World) : (Instr.checkKey e 10000 kt v).run P w = .ok () w := by
 obtain ⟨d, x, hd, ha, hl, hx, rfl, h1, h1'⟩ := keyFit_mk h hv
 exact checkS (P := P) 12 9988 kt ls hl e w x hx
def findS (v : Value) : List MapEntry → Nat → Option (Nat × Value)
 | [], _ => none
 | e :: es, i => if eqK v e.key = true then some (i, e.val) else findS v es (i + 1)
theorem run_findK {kt : TypeId} {ag : Bool} {ls : List Lf} (h : keyInfo P kt = some (ag, ls)) {v : Value} (hv : keyFit ag ls v = true) (es : List MapEntry) (hes : ∀ e ∈ es, keyFit ag ls e.key = true) (w : World) : (Instr.findKey kt v es).run P w = .ok (findS v es 0) w := by
 have hask : ∀ (es : List MapEntry) (i : Nat), (∀ e ∈ es, keyFit ag ls e.key = true) → (Instr.findAsking kt v es i).run P w = .ok (findS v es i) w := by
  intro es
  induction es with
  | nil => intro i _; simp [Instr.findAsking, findS]
  | cons e es ih =>
   intro i hes
   simp only [Instr.findAsking, Sem.run_bind, run_keyEq h hv (hes e (by simp)), Result.andThen_ok, findS]
   cases eqK v e.key with
   | true => simp
   | false => simpa using ih (i + 1) fun e he => hes e (by simp [he])
 obtain ⟨d, x, hd, ha, hl, hx, hvx, h1, h1'⟩ := keyFit_mk h hv
 simp only [Instr.findKey, Sem.run_bind, run_underlying hd, Result.andThen_ok]
 have hnow : ∀ (es : List MapEntry) (i : Nat), (∀ e ∈ es, keyFit ag ls e.key = true) → Instr.findNow d v es i = some (findS v es i) ∨ Instr.findNow d v es i = none := by
  intro es
  induction es with
  | nil => intro i _; exact .inl rfl
  | cons e es ih =>
   intro i hes
   simp only [Instr.findNow, findS]
   cases hs : Instr.sameNow d v e.key with
   | none => exact .inr rfl
   | some b =>
    have : b = eqK v e.key := by
     have hl' := hl
     unfold leaves at hl'
     rw [hd] at hl'
     generalize e.key = u at hs ⊢
     cases d <;> simp only [reduceCtorEq] at hl' <;> cases v <;> cases u <;> simp only [Instr.sameNow, reduceCtorEq] at hs
     ·cases hs
      rename_i a b
      simp only [eqK, seqV]
      by_cases e : a = b <;> simp [e]
     ·split at hs
      ·cases hs
       rename_i a _ b _
       rename_i hk
       subst hk
       simp only [eqK, seqV]
       by_cases e : a = b <;> simp [e]
      ·cases hs
    subst this
    cases eqK v e.key with
    | true => exact .inl (by simp)
    | false => simpa using ih (i + 1) fun e he => hes e (by simp [he])
 rcases hnow es 0 hes with e | e
 ·rw [e]; simp
 ·rw [e]; exact hask es 0 hes
theorem findS_none {v : Value} : ∀ {es : List MapEntry} {i : Nat}, findS v es i = none ↔ ∀ e ∈ es, eqK v e.key = false
 | [], i => by simp [findS]
 | e :: es, i => by
  simp only [findS]
  cases h : eqK v e.key with
  | true => simp [h]
  | false => simp [h, findS_none (es := es)]
theorem findS_some {v : Value} : ∀ {es : List MapEntry} {i j : Nat} {x : Value}, findS v es i = some (j, x) → ∃ e, i ≤ j ∧ es[j - i]? = some e ∧ eqK v e.key = true ∧ e.val = x
 | [], i, j, x, h => by simp [findS] at h
 | e :: es, i, j, x, h => by
  simp only [findS] at h
  split at h
  ·rename_i he
   simp only [Option.some.injEq, Prod.mk.injEq] at h
   obtain ⟨rfl, rfl⟩ := h
   exact ⟨e, Nat.le_refl _, by simp, he, rfl⟩
  ·obtain ⟨e', h1, h2, h3, h4⟩ := findS_some h
   refine ⟨e', by omega, ?_, h3, h4⟩
   have : j - i = (j - (i + 1)) + 1 := by omega
   rw [this]; simpa using h2
structure MapI : Type where
 ag : Bool
 ls : List Lf
 zero : Value
def mapInfo (P : Program) (t : TypeId) : Option MapI :=
 match P.underlying t with
 | some (.map kt et) => match keyInfo P kt with
  | some (ag, ls) => match P.info? et with
   | some i => match i.zero with
    | some z => if z.oneCell' = true ∧ i.size = 1 then some ⟨ag, ls, z⟩ else none
    | none => none
   | none => none
  | none => none
 | _ => none
theorem mapInfo_spec {t : TypeId} {mi : MapI} (h : mapInfo P t = some mi) : ∃ kt et i, P.underlying t = some (.map kt et) ∧ keyInfo P kt = some (mi.ag, mi.ls) ∧ P.info? et = some i ∧ i.zero = some mi.zero ∧ mi.zero.oneCell' = true := by
 unfold mapInfo at h
 split at h
 ·rename_i kt et hu
  split at h
  ·rename_i ag ls hk
   split at h
   ·rename_i i hi
    split at h
    ·rename_i z hz
     split at h
     ·rename_i hc
      simp only [Option.some.injEq] at h
      subst h
      exact ⟨kt, et, i, hu, hk, hi, hz, hc.1⟩
     ·cases h
    ·cases h
   ·cases h
  ·cases h
 ·cases h
end
section
variable {P : Program} {r : Nat → Option Nat} {N : Nat → Prop} {G : Bool → Nat → Prop} {w : World} {hp : List (Nat × Blk)}
theorem keyVs_rep : ∀ {l : List SV} {m : List Value} {cs : List Value}, keyVs l = some m → l.length = cs.length → (∀ (i : Nat) sv, l[i]? = some sv → Rep r N G w sv (cs.getD i undef)) → cs = m
 | [], m, cs, h, hl, hr => by
  simp only [keyVs, Option.some.injEq] at h; subst h
  cases cs <;> simp at hl ⊢
 | s :: l, m, cs, h, hl, hr => by
  cases s <;> simp only [keyVs, reduceCtorEq] at h
  rename_i v
  cases hm : keyVs l with
  | none => rw [hm] at h; cases h
  | some m' =>
   rw [hm] at h
   simp only [Option.some.injEq] at h
   subst h
   cases cs with
   | nil => simp at hl
   | cons c cs =>
    have h0 := hr 0 _ rfl
    simp only [List.getD_cons_zero] at h0
    cases h0
    have := keyVs_rep (l := l) (m := m') (cs := cs) hm (by simpa using hl) fun i sv hi => by simpa using hr (i + 1) sv (by simpa using hi)
    rw [this]
theorem keyV_rep {s : SV} {v u : Value} (h : keyV s = some v) (hr : Rep r N G w s u) : u = v := by
 cases hr <;> simp only [keyV, reduceCtorEq] at h
 ·simpa using h
 ·rename_i l cs hl hr
  cases hm : keyVs l with
  | none => rw [hm] at h; cases h
  | some m =>
   rw [hm] at h
   simp only [Option.some.injEq] at h
   subst h
   have := keyVs_rep (cs := cs.toList) hm (by simpa using hl) fun i sv hi => by simpa using hr i sv hi
   rw [← this]
def mapOf (hp : List (Nat × Blk)) (x : SV) : Option ((Value → Bool) × (Value → Bool) × (Value → SV)) :=
 match x with
 | .cmp _ fit dom get => some (fit, dom, get)
 | .mp id => match blk hp id with
  | some (.map fit dom get) => some (fit, dom, get)
  | some (.mapS fit dom get _ _) => some (fit, dom, get)
  | _ => none
 | _ => none
def rLookup (mi : Option MapI) (hp : List (Nat × Blk)) (x k : SV) (ok : Bool) : Res :=
 match mi with
 | some ⟨ag, ls, z⟩ => match mapOf hp x, keyV k with
  | some (fit, dom, get), some v => .pure (fit = keyFit ag ls ∧ keyFit ag ls v = true) (if ok = true then .tup [svIte (dom v) (get v) (.val z), .val (.bool (dom v))] else svIte (dom v) (get v) (.val z))
  | _, _ => .bad
 | none => .bad
theorem mapOf_spec (hO : Ok P r N G w hp) {x : SV} {u : Value} (hx : Rep r N G w x u) {fit dom : Value → Bool} {get : Value → SV} (h : mapOf hp x = some (fit, dom, get)) :
  ∃ b es clock, u = .map (some b) ∧ w.heap[b]? = some (.map es clock) ∧ MapOf fit dom es ∧ ∀ e, e ∈ es → Rep r N G w (get e.key) e.val := by
 cases hx <;> simp only [mapOf, reduceCtorEq] at h
 case mp id b hN hr =>
  split at h
  ·rename_i f d g hb
   simp only [Option.some.injEq, Prod.mk.injEq] at h
   obtain ⟨rfl, rfl, rfl⟩ := h
   have := hO.rep _ _ hb hN
   rw [hr] at this
   cases this with
   | map _ _ _ _ es clock hb hm ht h => exact ⟨b, es, clock, rfl, hb, hm, h⟩
  ·rename_i f d g s c hb
   simp only [Option.some.injEq, Prod.mk.injEq] at h
   obtain ⟨rfl, rfl, rfl⟩ := h
   have := hO.rep _ _ hb hN
   rw [hr] at this
   cases this with
   | mapS _ _ _ _ _ es _ hb' hm ht hst h => exact ⟨b, es, _, rfl, hb', hm, h⟩
  ·cases h
 case cmp o f d g b es clock hG hb hm h' =>
  simp only [Option.some.injEq, Prod.mk.injEq] at h
  obtain ⟨rfl, rfl, rfl⟩ := h
  exact ⟨b, es, clock, rfl, hb, hm, h'⟩
theorem dom_find {fit dom : Value → Bool} {es : Array MapEntry} (hm : MapOf fit dom es) {ag : Bool} {ls : List Lf} {kt : TypeId} (hk : keyInfo P kt = some (ag, ls)) (hfit : fit = keyFit ag ls) {v : Value} (hv : keyFit ag ls v = true) :
  (dom v = false → findS v es.toList 0 = none) ∧ (dom v = true → ∃ i e, findS v es.toList 0 = some (i, e.val) ∧ es[i]? = some e ∧ e.key = v) := by
 subst hfit
 constructor
 ·intro hd
  rw [findS_none]
  intro e he
  have he' : e ∈ es := by simpa using he
  cases hq : eqK v e.key with
  | false => rfl
  | true =>
   have := (eqK_iff hk hv (hm.fits e he')).1 hq
   rw [this, hm.doms e he'] at hd
   cases hd
 ·intro hd
  obtain ⟨e, he, hke⟩ := hm.has v hd
  cases hf : findS v es.toList 0 with
  | none =>
   rw [findS_none] at hf
   have := hf e (by simpa using he)
   rw [hke] at this
   have h2 := (eqK_iff hk hv hv).2 rfl
   rw [this] at h2; cases h2
  | some p =>
   obtain ⟨i, x⟩ := p
   obtain ⟨e', h1, h2, h3, h4⟩ := findS_some hf
   have h2' : es[i]? = some e' := by simpa using h2
   refine ⟨i, e', by rw [h4], h2', ?_⟩
   exact ((eqK_iff hk hv (hm.fits e' (Array.mem_of_getElem? h2'))).1 h3).symm
theorem run_lookup {t : TypeId} (hO : Ok P r N G w hp) {x k : SV} {u v : Value} (hx : Rep r N G w x u) (hk : Rep r N G w k v) (ok : Bool) : Good P r N G w (Instr.lookup t u v ok) (rLookup (mapInfo P t) hp x k ok) := by
 unfold rLookup
 split
 ·rename_i ag ls z hmi
  split
  ·rename_i fit dom get v' hmo hkv
   rintro ⟨hfit, hfv⟩
   obtain rfl := keyV_rep hkv hk
   obtain ⟨b, es, clock, rfl, hb, hm, hrep⟩ := mapOf_spec hO hx hmo
   obtain ⟨kt, et, i, hu, hki, hi, hz, hz1⟩ := mapInfo_spec hmi
   simp only [] at hki hz hz1
   have hes : ∀ e ∈ es.toList, keyFit ag ls e.key = true := fun e he => by rw [← hfit]; exact hm.fits e (by simpa using he)
   have hobj : (getObj b).run P w = .ok (.map es clock) w := by simp [getObj, Sem.run, hb]
   have hzero : (zeroValue et).run P w = .ok z w := by simp [zeroValue, typeInfo, hi, hz]
   obtain ⟨d1, d2⟩ := dom_find hm hki hfit hfv
   cases hd : dom v with
   | false =>
    have hf := d1 hd
    refine ⟨if ok = true then .tuple #[z, .bool false] else z, ?_, ?_⟩
    ·simp only [Instr.lookup, Sem.run_bind, run_underlying hu, Result.andThen_ok, hobj, Sem.run_pure, run_checkK hki hfv, run_findK hki hfv es.toList hes, hf, hzero]
    ·cases ok
     ·exact .val z
     ·simp only [if_true, svIte, Bool.false_eq_true, if_false]
      refine .tup _ _ rfl fun i sv hi => ?_
      match i, hi with
      | 0, hi => simp at hi; subst hi; exact .val z
      | 1, hi => simp at hi; subst hi; exact .val _
   | true =>
    obtain ⟨j, e, hf, hje, hke⟩ := d2 hd
    have hr := hrep e (Array.mem_of_getElem? hje)
    rw [hke] at hr
    refine ⟨if ok = true then .tuple #[e.val, .bool true] else e.val, ?_, ?_⟩
    ·simp only [Instr.lookup, Sem.run_bind, run_underlying hu, Result.andThen_ok, hobj, Sem.run_pure, run_checkK hki hfv, run_findK hki hfv es.toList hes, hf]
    ·cases ok
     ·simpa [svIte] using hr
     ·simp only [if_true, svIte]
      refine .tup _ _ rfl fun i sv hi => ?_
      match i, hi with
      | 0, hi => simp at hi; subst hi; exact hr
      | 1, hi => simp at hi; subst hi; exact .val _
  ·trivial
 ·trivial
end
def rMakeMap (mi : Option MapI) (rs : Bool) : Res :=
 match mi with
 | some ⟨ag, ls, _⟩ => if rs = true then .bad else .new True (.map (keyFit ag ls) (fun _ => false) (fun _ => .top)) (fun id => .mp id)
 | none => .bad
def putDom (dom : Value → Bool) (v : Value) : Value → Bool := fun k => eqK v k || dom k
def putGet (get : Value → SV) (v : Value) (x : SV) : Value → SV := fun k => svIte (eqK v k) x (get k)
def cutDom (dom : Value → Bool) (v : Value) : Value → Bool := fun k => !eqK v k && dom k
def rUpdate (mi : Option MapI) (hp : List (Nat × Blk)) (m k x : SV) : Res :=
 match mi, m with
 | some ⟨ag, ls, _⟩, .mp id => match blk hp id, keyV k with
  | some (.map fit dom get), some v => .upd (fit = keyFit ag ls ∧ keyFit ag ls v = true ∧ oneCell x = true) id (.map fit (putDom dom v) (putGet get v x))
  | some (.mapS fit dom get st c), some v => .upd (fit = keyFit ag ls ∧ keyFit ag ls v = true ∧ oneCell x = true ∧ dom v = true) id (.mapS fit dom (putGet get v x) st c)
  | _, _ => .bad
 | _, _ => .bad
def rDelete (mi : Option MapI) (hp : List (Nat × Blk)) (m k : SV) : Res :=
 match mi, m with
 | some ⟨ag, ls, _⟩, .mp id => match blk hp id, keyV k with
  | some (.map fit dom get), some v => .upd (fit = keyFit ag ls ∧ keyFit ag ls v = true) id (.map fit (cutDom dom v) get)
  | some (.mapS fit dom get st c), some v => .upd (fit = keyFit ag ls ∧ keyFit ag ls v = true) id (.mapS fit (cutDom dom v) get st c)
  | _, _ => .bad
 | _, _ => .bad
def rClearMap (mi : Option MapI) (hp : List (Nat × Blk)) (m : SV) : Res :=
 match mi, m with
 | some _, .mp id => match blk hp id with
  | some (.map fit dom get) => .upd True id (.map fit (fun _ => false) get)
  | _ => .bad
 | _, _ => .bad
section
variable {P : Program} {base : World} {okc : Nat → Prop} {r : Nat → Option Nat} {N : Nat → Prop} {hp : List (Nat × Blk)} {w : World}
theorem run_makeMapS (h : Sat base okc r N hp w) (t : TypeId) : GoodN P base okc r N hp w (Instr.makeMap t none) (rMakeMap (mapInfo P t) false) := by
 unfold rMakeMap
 split
 ·rename_i ag ls z hmi
  simp only [Bool.false_eq_true, if_false]
  intro _ id hp' hid hat hoth
  refine ⟨.map (some w.heap.size), w.alloc (.map #[] 0), _, ?_, h.new id hid (.map #[] 0) _ hat hoth fun r' N' G' h1 h2 h3 h4 h5 => ?_, .mp _ _ (.inr rfl) (upd_same _ _ _)⟩
  ·simp only [Instr.makeMap, Sem.run_bind, run_newObj, Result.andThen_ok, Sem.run_pure]
   rfl
  ·exact .map _ _ _ _ #[] 0 (heap_alloc_at w _) ⟨fun i j e f hi => by simp at hi, fun e he => by simp at he, fun e he => by simp at he, fun k hk => by cases hk⟩ ⟨fun e he => by simp at he, fun i j e f hi => by simp at hi⟩ fun e he => by simp at he
 ·trivial
theorem put_step (h : Sat base okc r N hp w) {id : Nat} {x : Blk} (hm : blk hp id = some x) (hN : N id) {b : Nat} (hr : r id = some b) {old : Obj} (hb : w.heap[b]? = some old) (hold : ∀ cs t z, old ≠ .cells cs t z) (o : Obj) (x' : Blk)
  (hx' : ∀ G' w', w'.heap[b]? = some o → (∀ sv v, Rep r N (Gd base okc r N hp w) w sv v → Rep r N G' w' sv v) → BlkRep r N G' w' (some b) x') :
  Step base okc r N hp w r N (setBlk hp id x') { w with heap := w.heap.setIfInBounds b o } := by
 have hlt : b < w.heap.size := (Array.getElem?_eq_some_iff.1 hb).1
 have hother : ∀ c, c ≠ b → ({ w with heap := w.heap.setIfInBounds b o } : World).heap[c]? = w.heap[c]? := fun c hc => by
  simp only [Array.getElem?_setIfInBounds]
  rw [if_neg (Ne.symm hc)]
 have hat : ({ w with heap := w.heap.setIfInBounds b o } : World).heap[b]? = some o := by
  simp only [Array.getElem?_setIfInBounds]
  simp [hlt]
 have hsh : Shapes w { w with heap := w.heap.setIfInBounds b o } := fun c cs t z hc => by
  by_cases e : c = b
  ·subst e; rw [hb] at hc; cases hc; exact absurd rfl (hold cs t z)
  ·exact ⟨cs, (hother c e).trans hc, rfl⟩
 have hbel : Below base.heap.size base { w with heap := w.heap.setIfInBounds b o } := h.below.trans ⟨rfl, rfl, rfl, by simp, fun k hk => hother k (by have := h.own _ _ _ hm hN hr; omega)⟩
 refine h.upd hm hN hr x' hbel hsh (by simp) hother fun G' hG' => hx' G' _ hat fun sv v hv => hv.mono (fun _ _ => rfl) (fun _ h => h) (fun o' c hc => ⟨hG' o' c hc, hother c fun e => hc.2.1 id x hm hN (e ▸ hr)⟩) hsh
theorem sameBits_key {kt : TypeId} {ag : Bool} {ls : List Lf} (h : keyInfo P kt = some (ag, ls)) {v : Value} (hv : keyFit ag ls v = true) : Instr.sameBits 10000 v v = true := by
 have one : ∀ (f : Lf) (x : Value) (n : Nat), lfOk f x = true → Instr.sameBits n x x = true := fun f x n hx => by
  cases f <;> cases x <;> simp [lfOk] at hx
  ·cases n <;> simp [Instr.sameBits]
  ·cases n <;> simp [Instr.sameBits]
 cases ag with
 | true =>
  cases v <;> simp only [keyFit, Bool.false_eq_true] at hv
  rename_i cs
  show (cs.size == cs.size && (cs.toList.zip cs.toList).all fun (x, y) => Instr.sameBits 9999 x y) = true
  simp only [beq_self_eq_true, Bool.true_and, List.all_eq_true]
  rintro ⟨a, b⟩ hab
  have key : ∀ (l : List Value) (ls : List Lf), fitL ls l = true → (a, b) ∈ l.zip l → Instr.sameBits 9999 a b = true := by
   intro l
   induction l with
   | nil => intro ls _ h; simp at h
   | cons x l ih =>
    intro ls hl hin
    cases ls with
    | nil => simp [fitL] at hl
    | cons f ls =>
     simp only [fitL, Bool.and_eq_true] at hl
     simp only [List.zip_cons_cons, List.mem_cons, Prod.mk.injEq] at hin
     rcases hin with ⟨rfl, rfl⟩ | hin
     ·exact one f _ _ hl.1
     ·exact ih ls hl.2 hin
  exact key cs.toList ls hv hab
 | false =>
  simp only [keyFit] at hv
  match ls, hv with
  | [f], hv => simp [fitL] at hv; exact one f v _ hv
  | [], hv => simp [fitL] at hv
  | _ :: _ :: _, hv => simp [fitL] at hv
theorem find_at {es : Array MapEntry} {i : Nat} {e : MapEntry} (h : es[i]? = some e) : i < es.size := (Array.getElem?_eq_some_iff.1 h).1
theorem modify_get {es : Array MapEntry} {i : Nat} (f : MapEntry → MapEntry) (j : Nat) : (es.modify i f)[j]? = (es[j]?).map fun e => if j = i then f e else e := by
 rw [Array.getElem?_modify]
 by_cases h : i = j
 ·subst h; cases es[i]? <;> simp
 ·cases es[j]? <;> simp [h, Ne.symm h]
theorem mem_modify {es : Array MapEntry} {i : Nat} {f : MapEntry → MapEntry} {e : MapEntry} (h : e ∈ es.modify i f) : ∃ j e', es[j]? = some e' ∧ e = if j = i then f e' else e' := by
 obtain ⟨j, hj⟩ := Array.mem_iff_getElem?.1 h
 rw [modify_get] at hj
 simp only [Option.map_eq_some_iff] at hj
 obtain ⟨e', h1, h2⟩ := hj
 exact ⟨j, e', h1, h2.symm⟩
theorem mapOf_put {kt : TypeId} {ag : Bool} {ls : List Lf} (hki : keyInfo P kt = some (ag, ls)) {dom : Value → Bool} {es : Array MapEntry} {clock : Nat} (hm : MapOf (keyFit ag ls) dom es) (ht : Born es clock) {v : Value} (hv : keyFit ag ls v = true) (u : Value) :
  (dom v = true → ∃ i e, findS v es.toList 0 = some (i, e.val) ∧ es[i]? = some e ∧ e.key = v ∧ MapOf (keyFit ag ls) (putDom dom v) (es.modify i fun e => { e with key := v, val := u }) ∧ Born (es.modify i fun e => { e with key := v, val := u }) clock ∧
    ∀ e', e' ∈ (es.modify i fun e => { e with key := v, val := u }) → (e'.key = v ∧ e'.val = u ∧ e'.born = e.born) ∨ (e' ∈ es ∧ e'.key ≠ v)) ∧
  (dom v = false → findS v es.toList 0 = none ∧ MapOf (keyFit ag ls) (putDom dom v) (es.push { key := v, val := u, born := clock }) ∧ Born (es.push { key := v, val := u, born := clock }) (clock + 1) ∧
    ∀ e', e' ∈ es.push { key := v, val := u, born := clock } → (e'.key = v ∧ e'.val = u) ∨ (e' ∈ es ∧ e'.key ≠ v)) := by
 obtain ⟨d1, d2⟩ := dom_find hm hki rfl hv
 have hself : eqK v v = true := (eqK_iff hki hv hv).2 rfl
 constructor
 ·intro hd
  obtain ⟨i, e, hf, hi, hk⟩ := d2 hd
  have hother : ∀ j e', es[j]? = some e' → j ≠ i → e'.key ≠ v := fun j e' hj hne hk' => hne (hm.once i j e e' hi hj (hk.trans hk'.symm)).symm
  have hkeys : ∀ (j : Nat) (e' : MapEntry), (es.modify i fun e => { e with key := v, val := u })[j]? = some e' → ∃ e0, es[j]? = some e0 ∧ e'.key = e0.key ∧ e'.born = e0.born := fun j e' hj => by
   rw [modify_get] at hj
   simp only [Option.map_eq_some_iff] at hj
   obtain ⟨e0, h0, rfl⟩ := hj
   refine ⟨e0, h0, ?_⟩
   split
   ·rename_i e'; subst e'; rw [hi] at h0; cases h0; exact ⟨hk.symm, rfl⟩
   ·exact ⟨rfl, rfl⟩
  refine ⟨i, e, hf, hi, hk, ⟨fun j j' x y hx hy hxy => ?_, fun x hx => ?_, fun x hx => ?_, fun k hk' => ?_⟩, ⟨fun x hx => ?_, fun j j' x y hx hy hxy => ?_⟩, fun e' he' => ?_⟩
  ·obtain ⟨x0, h1, h2, _⟩ := hkeys j x hx
   obtain ⟨y0, h3, h4, _⟩ := hkeys j' y hy
   exact hm.once j j' x0 y0 h1 h3 (by rw [← h4, ← h2]; exact hxy)
  ·obtain ⟨j, hj⟩ := Array.mem_iff_getElem?.1 hx
   obtain ⟨x0, h1, h2, _⟩ := hkeys j x hj
   rw [h2]; exact hm.fits x0 (Array.mem_of_getElem? h1)
  ·obtain ⟨j, hj⟩ := Array.mem_iff_getElem?.1 hx
   obtain ⟨x0, h1, h2, _⟩ := hkeys j x hj
   rw [h2]
   simp [putDom, hm.doms x0 (Array.mem_of_getElem? h1)]
  ·have : dom k = true := by
    simp only [putDom, Bool.or_eq_true] at hk'
    rcases hk' with h | h
    ·rw [← eqK_eq h]; exact hd
    ·exact h
   obtain ⟨e0, he0, hk0⟩ := hm.has k this
   obtain ⟨j, hj⟩ := Array.mem_iff_getElem?.1 he0
   refine ⟨if j = i then { e0 with key := v, val := u } else e0, Array.mem_of_getElem? (i := j) (by rw [modify_get, hj]; rfl), ?_⟩
   split
   ·rename_i e'; subst e'; rw [hi] at hj; cases hj; exact hk.symm.trans hk0
   ·exact hk0
  ·obtain ⟨j, hj⟩ := Array.mem_iff_getElem?.1 hx
   obtain ⟨x0, h1, _, h2⟩ := hkeys j x hj
   rw [h2]; exact ht.lt x0 (Array.mem_of_getElem? h1)
  ·obtain ⟨x0, h1, _, h2⟩ := hkeys j x hx
   obtain ⟨y0, h3, _, h4⟩ := hkeys j' y hy
   exact ht.once j j' x0 y0 h1 h3 (by rw [← h4, ← h2]; exact hxy)
  ·obtain ⟨j, e0, h1, rfl⟩ := mem_modify he'
   by_cases e' : j = i
   ·subst e'
    rw [hi] at h1; cases h1
    left; simp
   ·right
    rw [if_neg e']
    exact ⟨Array.mem_of_getElem? h1, hother j e0 h1 e'⟩
 ·intro hd
  have hfn := d1 hd
  have hnk : ∀ (e : MapEntry), e ∈ es → e.key ≠ v := fun e he hk => by
   have := hm.doms e he
   rw [hk, hd] at this; cases this
  have hget : ∀ (j : Nat) (x : MapEntry), (es.push { key := v, val := u, born := clock })[j]? = some x → (es[j]? = some x ∧ j < es.size) ∨ (j = es.size ∧ x = { key := v, val := u, born := clock }) := fun j x hx => by
   rw [Array.getElem?_push] at hx
   split at hx
   ·right; simp at hx; exact ⟨by assumption, hx.symm⟩
   ·left; exact ⟨hx, find_at hx⟩
  refine ⟨hfn, ⟨fun j j' x y hx hy hxy => ?_, fun x hx => ?_, fun x hx => ?_, fun k hk' => ?_⟩, ⟨fun x hx => ?_, fun j j' x y hx hy hxy => ?_⟩, fun e' he' => ?_⟩
  ·rcases hget j x hx with ⟨h1, h2⟩ | ⟨h1, h2⟩ <;> rcases hget j' y hy with ⟨h3, h4⟩ | ⟨h3, h4⟩
   ·exact hm.once j j' x y h1 h3 hxy
   ·subst h4; exact absurd hxy (hnk x (Array.mem_of_getElem? h1))
   ·subst h2; exact absurd hxy.symm (hnk y (Array.mem_of_getElem? h3))
   ·rw [h1, h3]
  ·rcases Array.mem_push.1 hx with h | h
   ·exact hm.fits x h
   ·subst h; exact hv
  ·rcases Array.mem_push.1 hx with h | h
   ·simp [putDom, hm.doms x h]
   ·subst h; simp [putDom, hself]
  ·simp only [putDom, Bool.or_eq_true] at hk'
   rcases hk' with h | h
   ·exact ⟨_, Array.mem_push_self, eqK_eq h⟩
   ·obtain ⟨e, he, hke⟩ := hm.has k h
    exact ⟨e, Array.mem_push.2 (.inl he), hke⟩
  ·rcases Array.mem_push.1 hx with h | h
   ·have := ht.lt x h; omega
   ·subst h; exact Nat.lt_succ_self _
  ·rcases hget j x hx with ⟨h1, h2⟩ | ⟨h1, h2⟩ <;> rcases hget j' y hy with ⟨h3, h4⟩ | ⟨h3, h4⟩
   ·exact ht.once j j' x y h1 h3 hxy
   ·subst h4
    have := ht.lt x (Array.mem_of_getElem? h1)
    simp at hxy; omega
   ·subst h2
    have := ht.lt y (Array.mem_of_getElem? h3)
    simp at hxy; omega
   ·rw [h1, h3]
  ·rcases Array.mem_push.1 he' with h | h
   ·exact .inr ⟨h, hnk e' h⟩
   ·subst h; exact .inl ⟨rfl, rfl⟩
theorem mapOf_cut {kt : TypeId} {ag : Bool} {ls : List Lf} (hki : keyInfo P kt = some (ag, ls)) {dom : Value → Bool} {es : Array MapEntry} {clock : Nat} (hm : MapOf (keyFit ag ls) dom es) (ht : Born es clock) {v : Value} (hv : keyFit ag ls v = true) :
  ∃ es', (match findS v es.toList 0 with | some (i, _) => es.eraseIdxIfInBounds i | none => es) = es' ∧ MapOf (keyFit ag ls) (cutDom dom v) es' ∧ Born es' clock ∧ ∀ e', e' ∈ es' → e' ∈ es := by
 obtain ⟨d1, d2⟩ := dom_find hm hki rfl hv
 cases hd : dom v with
 | false =>
  rw [d1 hd]
  refine ⟨es, rfl, ⟨hm.once, hm.fits, fun e he => ?_, fun k hk => ?_⟩, ht, fun e' h => h⟩
  ·have h1 := hm.doms e he
   cases hq : eqK v e.key with
   | false => simp [cutDom, hq, h1]
   | true => rw [← eqK_eq hq, hd] at h1; cases h1
  ·simp only [cutDom, Bool.and_eq_true] at hk
   exact hm.has k hk.2
 | true =>
  obtain ⟨i, e, hf, hi, hk⟩ := d2 hd
  rw [hf]
  have hlt := find_at hi
  have hget : ∀ (j : Nat) (x : MapEntry), (es.eraseIdxIfInBounds i)[j]? = some x → ∃ j', es[j']? = some x ∧ j' ≠ i ∧ j' = if j < i then j else j + 1 := fun j x hj => by
   simp only [Array.eraseIdxIfInBounds, hlt, dif_pos, Array.getElem?_eraseIdx] at hj
   split at hj
   ·rename_i h; exact ⟨j, hj, by omega, by rw [if_pos h]⟩
   ·rename_i h; exact ⟨j + 1, hj, by omega, by rw [if_neg h]⟩
  have hmem : ∀ x, x ∈ es.eraseIdxIfInBounds i → x ∈ es ∧ x.key ≠ v := fun x hx => by
   obtain ⟨j, hj⟩ := Array.mem_iff_getElem?.1 hx
   obtain ⟨j', h1, h2, _⟩ := hget j x hj
   exact ⟨Array.mem_of_getElem? h1, fun e' => h2 (hm.once j' i x e h1 hi (e'.trans hk.symm))⟩
  refine ⟨_, rfl, ⟨fun j j' x y hx hy hxy => ?_, fun x hx => hm.fits x (hmem x hx).1, fun x hx => ?_, fun k hk' => ?_⟩, ⟨fun x hx => ht.lt x (hmem x hx).1, fun j j' x y hx hy hxy => ?_⟩, fun e' h => (hmem e' h).1⟩
  ·obtain ⟨a, h1, h2, h3⟩ := hget j x hx
   obtain ⟨b, h4, h5, h6⟩ := hget j' y hy
   have := hm.once a b x y h1 h4 hxy
   subst this
   split at h3 <;> split at h6 <;> omega
  ·obtain ⟨h1, h2⟩ := hmem x hx
   have h3 := hm.doms x h1
   cases hq : eqK v x.key with
   | false => simp [cutDom, hq, h3]
   | true => exact absurd (eqK_eq hq).symm h2
  ·simp only [cutDom, Bool.and_eq_true, Bool.not_eq_true'] at hk'
   obtain ⟨x, hx, hxk⟩ := hm.has k hk'.2
   obtain ⟨j, hj⟩ := Array.mem_iff_getElem?.1 hx
   have hne : j ≠ i := fun e' => by
    subst e'; rw [hi] at hj; cases hj
    rw [← hxk, hk, (eqK_iff hki hv hv).2 rfl] at hk'
    exact absurd hk'.1 (by simp)
   refine ⟨x, Array.mem_of_getElem? (i := if j < i then j else j - 1) ?_, hxk⟩
   simp only [Array.eraseIdxIfInBounds, hlt, dif_pos, Array.getElem?_eraseIdx]
   by_cases h : j < i
   ·rw [if_pos h, if_pos h]; exact hj
   ·rw [if_neg h, if_neg (by omega)]
    have : j - 1 + 1 = j := by omega
    rw [this]; exact hj
  ·obtain ⟨a, h1, h2, h3⟩ := hget j x hx
   obtain ⟨b, h4, h5, h6⟩ := hget j' y hy
   have := ht.once a b x y h1 h4 hxy
   subst this
   split at h3 <;> split at h6 <;> omega
theorem run_updateS (h : Sat base okc r N hp w) (t : TypeId) {m k x : SV} {u v y : Value} (hm : Rep r N (Gd base okc r N hp w) w m u) (hk : Rep r N (Gd base okc r N hp w) w k v) (hx : Rep r N (Gd base okc r N hp w) w x y) :
  GoodU P base okc r N hp w (Instr.mapUpdate t u v y) (rUpdate (mapInfo P t) hp m k x) := by
 unfold rUpdate
 split
 rotate_left
 ·trivial
 rename_i ag ls z id hmi
 obtain ⟨kt, et, i, hu, hki, hi, hz, hz1⟩ := mapInfo_spec hmi
 simp only [] at hki
 cases hm with
 | mp _ b hN hr =>
  split
  ·rename_i fit dom get v' hb hkv
   rintro ⟨rfl, hfv, h1⟩
   obtain rfl := keyV_rep hkv hk
   have hrep := h.rep _ _ hb hN
   rw [hr] at hrep
   cases hrep with
   | map _ _ _ _ es clock hb' hmo ht hes =>
    obtain ⟨p1, p2⟩ := mapOf_put hki hmo ht hfv y
    have hfes : ∀ e ∈ es.toList, keyFit ag ls e.key = true := fun e he => hmo.fits e (by simpa using he)
    have hobj : (getObj b).run P w = .ok (.map es clock) w := by simp [getObj, Sem.run, hb']
    have hset : ∀ o, (setObj b o).run P w = .ok () { w with heap := w.heap.setIfInBounds b o } := fun o => by simp [setObj, Sem.run, hb']
    have hgets : ∀ (es' : Array MapEntry) (hes' : ∀ e', e' ∈ es' → (e'.key = v ∧ e'.val = y) ∨ (e' ∈ es ∧ e'.key ≠ v)) (G' : Bool → Nat → Prop) (w' : World), (∀ sv v, Rep r N (Gd base okc r N hp w) w sv v → Rep r N G' w' sv v) → ∀ e', e' ∈ es' → Rep r N G' w' (putGet get v x e'.key) e'.val := fun es' hes' G' w' hrep e' he' => by
     rcases hes' e' he' with ⟨e1, e2⟩ | ⟨e1, e2⟩
     ·rw [e1, e2]
      have := (eqK_iff hki hfv hfv).2 rfl
      simp only [putGet, this, svIte, if_true]
      exact hrep _ _ hx
     ·have : eqK v e'.key = false := by
       cases hq : eqK v e'.key with
       | false => rfl
       | true => exact absurd (eqK_eq hq).symm e2
      simp only [putGet, this, svIte, Bool.false_eq_true, if_false]
      exact hrep _ _ (hes e' e1)
    cases hd : dom v with
    | true =>
     obtain ⟨j, e, hf, hj, hke, hmo', ht', hall⟩ := p1 hd
     refine ⟨_, ?_, put_step h hb hN hr hb' (fun _ _ _ => by simp) (.map (es.modify j fun e => { e with key := v, val := y }) clock) _ fun G' w' hw' hrep => .map _ _ _ b _ clock hw' hmo' ht' (hgets _ (fun e' he' => (hall e' he').elim (fun h => .inl ⟨h.1, h.2.1⟩) .inr) G' w' hrep)⟩
     have hkeep : (Instr.keyThatStays v v).run P w = .ok v w := by simp [Instr.keyThatStays, sameBits_key hki hfv]
     simp only [Instr.mapUpdate, Sem.run_bind, run_underlying hu, Result.andThen_ok, hobj, run_checkK hki hfv, run_findK hki hfv es.toList hfes, hf, hj, Option.map_some, Option.getD_some, hke, hkeep, hset]
    | false =>
     obtain ⟨hf, hmo', ht', hall⟩ := p2 hd
     refine ⟨_, ?_, put_step h hb hN hr hb' (fun _ _ _ => by simp) (.map (es.push { key := v, val := y, born := clock }) (clock + 1)) _ fun G' w' hw' hrep => .map _ _ _ b _ _ hw' hmo' ht' (hgets _ hall G' w' hrep)⟩
     simp only [Instr.mapUpdate, Sem.run_bind, run_underlying hu, Result.andThen_ok, hobj, run_checkK hki hfv, run_findK hki hfv es.toList hfes, hf, hset]
  ·rename_i fit dom get st c v' hb hkv
   rintro ⟨rfl, hfv, h1, hd⟩
   obtain rfl := keyV_rep hkv hk
   have hrep := h.rep _ _ hb hN
   rw [hr] at hrep
   cases hrep with
   | mapS _ _ _ _ _ es _ hb' hmo ht hst hes =>
    obtain ⟨p1, p2⟩ := mapOf_put hki hmo ht hfv y
    have hfes : ∀ e ∈ es.toList, keyFit ag ls e.key = true := fun e he => hmo.fits e (by simpa using he)
    have hobj : (getObj b).run P w = .ok (.map es c) w := by simp [getObj, Sem.run, hb']
    have hset : ∀ o, (setObj b o).run P w = .ok () { w with heap := w.heap.setIfInBounds b o } := fun o => by simp [setObj, Sem.run, hb']
    obtain ⟨j, e, hf, hj, hke, hmo', ht', hall⟩ := p1 hd
    have hdom : putDom dom v = dom := by
     funext q
     simp only [putDom]
     cases hq : eqK v q with
     | false => rfl
     | true => rw [← eqK_eq hq, hd]; rfl
    rw [hdom] at hmo'
    refine ⟨_, ?_, put_step h hb hN hr hb' (fun _ _ _ => by simp) (.map (es.modify j fun e => { e with key := v, val := y }) c) _ fun G' w' hw' hrep => .mapS _ _ _ _ b _ c hw' hmo' ht' (fun e' he' => ?_) (fun e' he' => ?_)⟩
    ·have hkeep : (Instr.keyThatStays v v).run P w = .ok v w := by simp [Instr.keyThatStays, sameBits_key hki hfv]
     simp only [Instr.mapUpdate, Sem.run_bind, run_underlying hu, Result.andThen_ok, hobj, run_checkK hki hfv, run_findK hki hfv es.toList hfes, hf, hj, Option.map_some, Option.getD_some, hke, hkeep, hset]
    ·rcases hall e' he' with ⟨e1, e2, e3⟩ | ⟨e1, e2⟩
     ·rw [e3, e1, hst e (Array.mem_of_getElem? hj), hke]
     ·exact hst e' e1
    ·rcases hall e' he' with ⟨e1, e2, _⟩ | ⟨e1, e2⟩
     ·rw [e1, e2]
      have := (eqK_iff hki hfv hfv).2 rfl
      simp only [putGet, this, svIte, if_true]
      exact hrep _ _ hx
     ·have : eqK v e'.key = false := by
       cases hq : eqK v e'.key with
       | false => rfl
       | true => exact absurd (eqK_eq hq).symm e2
      simp only [putGet, this, svIte, Bool.false_eq_true, if_false]
      exact hrep _ _ (hes e' e1)
  ·trivial
theorem run_deleteS (h : Sat base okc r N hp w) (t t' ty : TypeId) {m k : SV} {u v : Value} (hm : Rep r N (Gd base okc r N hp w) w m u) (hk : Rep r N (Gd base okc r N hp w) w k v) {obl : Prop} {id : Nat} {bb : Blk} (hres : rDelete (mapInfo P t) hp m k = .upd obl id bb) (ho : obl) :
  ∃ w', (Builtin.delete_ #[t, t'] ty #[u, v]).run P w = .ok (.tuple #[]) w' ∧ Step base okc r N hp w r N (setBlk hp id bb) w' := by
 unfold rDelete at hres
 split at hres
 rotate_left
 ·cases hres
 rename_i ag ls z id hmi
 obtain ⟨kt, et, i, hu, hki, hi, hz, hz1⟩ := mapInfo_spec hmi
 simp only [] at hki
 cases hm with
 | mp _ b hN hr =>
  split at hres
  ·rename_i fit dom get v' hb hkv
   simp only [Res.upd.injEq] at hres
   obtain ⟨rfl, rfl, rfl⟩ := hres
   obtain ⟨rfl, hfv⟩ := ho
   obtain rfl := keyV_rep hkv hk
   have hrep := h.rep _ _ hb hN
   rw [hr] at hrep
   cases hrep with
   | map _ _ _ _ es clock hb' hmo ht hes =>
    obtain ⟨es', hes', hmo', ht', hall⟩ := mapOf_cut hki hmo ht hfv
    have hfes : ∀ e ∈ es.toList, keyFit ag ls e.key = true := fun e he => hmo.fits e (by simpa using he)
    have hobj : (getObj b).run P w = .ok (.map es clock) w := by simp [getObj, Sem.run, hb']
    have hset : ∀ o, (setObj b o).run P w = .ok () { w with heap := w.heap.setIfInBounds b o } := fun o => by simp [setObj, Sem.run, hb']
    refine ⟨_, ?_, put_step h hb hN hr hb' (fun _ _ _ => by simp) (.map es' clock) _ fun G' w' hw' hrep => .map _ _ _ b _ _ hw' hmo' ht' fun e' he' => hrep _ _ (hes e' (hall e' he'))⟩
    simp only [Builtin.delete_, List.getElem?_toArray, List.getElem?_cons_zero, List.getElem?_cons_succ, Sem.run_bind, run_underlying hu, Result.andThen_ok, hobj, run_checkK hki hfv, run_findK hki hfv es.toList hfes]
    cases hf : findS v es.toList 0 with
    | none => rw [hf] at hes'; simp only [] at hes'; subst hes'; simp only [Sem.run_bind, hset, Result.andThen_ok, Sem.run_pure]
    | some p =>
     obtain ⟨j, x⟩ := p
     rw [hf] at hes'; simp only [] at hes'; subst hes'; simp only [Sem.run_bind, hset, Result.andThen_ok, Sem.run_pure]
  ·rename_i fit dom get st c v' hb hkv
   simp only [Res.upd.injEq] at hres
   obtain ⟨rfl, rfl, rfl⟩ := hres
   obtain ⟨rfl, hfv⟩ := ho
   obtain rfl := keyV_rep hkv hk
   have hrep := h.rep _ _ hb hN
   rw [hr] at hrep
   cases hrep with
   | mapS _ _ _ _ _ es _ hb' hmo ht hst hes =>
    obtain ⟨es', hes', hmo', ht', hall⟩ := mapOf_cut hki hmo ht hfv
    have hfes : ∀ e ∈ es.toList, keyFit ag ls e.key = true := fun e he => hmo.fits e (by simpa using he)
    have hobj : (getObj b).run P w = .ok (.map es c) w := by simp [getObj, Sem.run, hb']
    have hset : ∀ o, (setObj b o).run P w = .ok () { w with heap := w.heap.setIfInBounds b o } := fun o => by simp [setObj, Sem.run, hb']
    refine ⟨_, ?_, put_step h hb hN hr hb' (fun _ _ _ => by simp) (.map es' c) _ fun G' w' hw' hrep => .mapS _ _ _ _ b _ _ hw' hmo' ht' (fun e' he' => hst e' (hall e' he')) fun e' he' => hrep _ _ (hes e' (hall e' he'))⟩
    simp only [Builtin.delete_, List.getElem?_toArray, List.getElem?_cons_zero, List.getElem?_cons_succ, Sem.run_bind, run_underlying hu, Result.andThen_ok, hobj, run_checkK hki hfv, run_findK hki hfv es.toList hfes]
    cases hf : findS v es.toList 0 with
    | none => rw [hf] at hes'; simp only [] at hes'; subst hes'; simp only [Sem.run_bind, hset, Result.andThen_ok, Sem.run_pure]
    | some p =>
     obtain ⟨j, x⟩ := p
     rw [hf] at hes'; simp only [] at hes'; subst hes'; simp only [Sem.run_bind, hset, Result.andThen_ok, Sem.run_pure]
  ·cases hres
theorem run_clearMapS (h : Sat base okc r N hp w) (t ty : TypeId) {m : SV} {u : Value} (hm : Rep r N (Gd base okc r N hp w) w m u) {obl : Prop} {id : Nat} {bb : Blk} (hres : rClearMap (mapInfo P t) hp m = .upd obl id bb) (ho : obl) :
  ∃ w', (Builtin.clear_ #[t] ty #[u]).run P w = .ok (.tuple #[]) w' ∧ Step base okc r N hp w r N (setBlk hp id bb) w' := by
 unfold rClearMap at hres
 split at hres
 rotate_left
 ·cases hres
 rename_i mi id hmi
 obtain ⟨kt, et, i, hu, hki, hi, hz, hz1⟩ := mapInfo_spec hmi
 cases hm with
 | mp _ b hN hr =>
  split at hres
  ·rename_i fit dom get hb
   simp only [Res.upd.injEq] at hres
   obtain ⟨rfl, rfl, rfl⟩ := hres
   have hrep := h.rep _ _ hb hN
   rw [hr] at hrep
   cases hrep with
   | map _ _ _ _ es clock hb' hmo ht hes =>
    have hobj : (getObj b).run P w = .ok (.map es clock) w := by simp [getObj, Sem.run, hb']
    have hset : ∀ o, (setObj b o).run P w = .ok () { w with heap := w.heap.setIfInBounds b o } := fun o => by simp [setObj, Sem.run, hb']
    refine ⟨_, ?_, put_step h hb hN hr hb' (fun _ _ _ => by simp) (.map #[] clock) _ fun G' w' hw' hrep => .map _ _ _ b _ _ hw' ⟨fun i j e f hi => by simp at hi, fun e he => by simp at he, fun e he => by simp at he, fun k hk => by cases hk⟩ ⟨fun e he => by simp at he, fun i j e f hi => by simp at hi⟩ fun e he => by simp at he⟩
    simp only [Builtin.clear_, List.getElem?_toArray, List.getElem?_cons_zero, List.getElem?_cons_succ, Sem.run_bind, run_underlying hu, Result.andThen_ok, hobj, hset, Sem.run_pure]
  ·cases hres
end
end Go.Sx
end
section
set_option linter.unusedVariables false
set_option linter.unusedSimpArgs false
namespace Go.Sx
open Go.RowKit
mutual
def Sub (hp : List (Nat × Blk)) : SV → SV → Prop
 | .top, _ => True
 | .val v, s => s = .val v
 | .agg l, s => match s with | .agg m => SubL hp l m | _ => False
 | .tup l, s => match s with | .tup m => SubL hp l m | _ => False
 | .fn f a b, s => match s with | .fn f' a' b' => f = f' ∧ SubL hp a a' ∧ SubL hp b b' | _ => False
 | .ref o n row, s => match s with
  | .ref o' n' row' => (o = true → o' = true) ∧ n ≤ n' ∧ ∀ j, j < n → Sub hp (row j) (row' j)
  | .ptr id off => match blk hp id with
   | some (.cells _ l) => ∀ j, j < n → Sub hp (row j) (l.getD (off + j) .top) ∧ off + j < l.length
   | _ => False
  | .elt id k i j0 => match blk hp id with
   | some (.rows _ k' n' row') => k = k' ∧ i < n' ∧ j0 + n ≤ k ∧ ∀ j, j < n → Sub hp (row j) (row' i (j0 + j))
   | _ => False
  | _ => False
 | .arr o full n k row, s => match s with
  | .arr o' full' n' k' row' => (o = true → o' = true) ∧ (full = true → full' = true) ∧ n = n' ∧ k = k' ∧ ∀ i j, i < n → j < k → Sub hp (row i j) (row' i j)
  | .vec id n' k' => full = false ∧ n = n' ∧ k = k' ∧ match blk hp id with
   | some (.rows _ k'' m row') => n ≤ m ∧ k = k'' ∧ ∀ i j, i < n → j < k → Sub hp (row i j) (row' i j)
   | _ => False
  | .asl id off n' k' => full = false ∧ n = n' ∧ k = k' ∧ match blk hp id with
   | some (.cells _ l) => off + n * k ≤ l.length ∧ ∀ i j, i < n → j < k → Sub hp (row i j) (l.getD (off + (i * k + j)) .top)
   | _ => False
  | .cut id n' k' => n = n' ∧ k = k' ∧ match blk hp id with
   | some (.rows _ k'' m row') => n ≤ m ∧ k = k'' ∧ ∀ i j, i < n → j < k → Sub hp (row i j) (row' i j)
   | _ => False
  | .val u => nilSlice u = true ∧ n = 0
  | _ => False
 | .cmp o fit dom get, s => match s with
  | .cmp o' fit' dom' get' => (o = true → o' = true) ∧ fit = fit' ∧ dom = dom' ∧ ∀ key, dom key = true → Sub hp (get key) (get' key)
  | .mp id => match blk hp id with
   | some (.map fit' dom' get') => fit = fit' ∧ dom = dom' ∧ ∀ key, dom key = true → Sub hp (get key) (get' key)
   | some (.mapS fit' dom' get' _ _) => fit = fit' ∧ dom = dom' ∧ ∀ key, dom key = true → Sub hp (get key) (get' key)
   | _ => False
  | _ => False
 | _, _ => False
def SubL (hp : List (Nat × Blk)) : List SV → List SV → Prop
 | [], m => m = []
 | a :: l, m => match m with | b :: m => Sub hp a b ∧ SubL hp l m | [] => False
end
mutual
def Fresh : SV → Prop
 | .top => True
 | .val _ => True
 | .agg l => FreshL l
 | .tup l => FreshL l
 | .fn _ a b => FreshL a ∧ FreshL b
 | .ref o n row => o = true ∧ ∀ j, j < n → Fresh (row j)
 | .arr o _ n k row => o = true ∧ ∀ i j, i < n → j < k → Fresh (row i j)
 | .cmp o _ dom get => o = true ∧ ∀ key, dom key = true → Fresh (get key)
 | _ => False
def FreshL : List SV → Prop
 | [] => True
 | a :: l => Fresh a ∧ FreshL l
end
def noR : Nat → Option Nat := fun _ => none
def noN : Nat → Prop := fun _ => False
def Contract (P : Program) (f : FuncId) (args : List SV) (res : SV) : Prop :=
 (∃ fn, P.funcs[f]? = some fn ∧ (fn.name == "runtime.NumGoroutine") = false ∧ fn.body.isSome = true) ∧
 ∀ (okc : Nat → Prop) (w : World) (vs : Array Value), args.length = vs.size →
  (∀ i sv, args[i]? = some sv → Rep noR noN (fun _ b => okc b ∧ b < w.heap.size) w sv (vs.getD i undef)) →
  Calls P f vs w fun e w' => ∃ v, e = .returned v ∧ Below w.heap.size w w' ∧
   Rep noR noN (fun o b => b < w'.heap.size ∧ if o = true then w.heap.size ≤ b else okc b ∨ w.heap.size ≤ b) w' res v
theorem subL_get {hp : List (Nat × Blk)} : ∀ {l m : List SV}, SubL hp l m → l.length = m.length ∧ ∀ (i : Nat) (a b : SV), l[i]? = some a → m[i]? = some b → Sub hp a b
 | [], m, h => by simp only [SubL] at h; subst h; exact ⟨rfl, fun i a b h => by simp at h⟩
 | a :: l, [], h => by simp [SubL] at h
 | a :: l, b :: m, h => by
  simp only [SubL] at h
  obtain ⟨h1, h2⟩ := subL_get h.2
  refine ⟨by simp [h1], fun i x y hx hy => ?_⟩
  cases i with
  | zero => simp at hx hy; subst hx; subst hy; exact h.1
  | succ i => exact h2 i x y (by simpa using hx) (by simpa using hy)
theorem freshL_get : ∀ {l : List SV}, FreshL l → ∀ (i : Nat) (a : SV), l[i]? = some a → Fresh a
 | [], _, i, a, h => by simp at h
 | b :: l, hf, i, a, h => by
  simp only [FreshL] at hf
  cases i with
  | zero => simp at h; subst h; exact hf.1
  | succ i => exact freshL_get hf.2 i a (by simpa using h)
section
variable {r : Nat → Option Nat} {N : Nat → Prop} {G G' : Bool → Nat → Prop} {w : World} {hp : List (Nat × Blk)}
mutual
theorem sub_rep (hG : ∀ o o' b, (o = true → o' = true) → G o' b → G' o b) (hB : ∀ id x, blk hp id = some x → N id → BlkRep r N G w (r id) x ∧ ∀ b, r id = some b → ∀ o, G' o b) :
  ∀ (p s : SV) (v : Value), Sub hp p s → Rep r N G w s v → Rep noR noN G' w p v
 | .top, s, v, _, _ => .top v
 | .val u, s, v, h, hv => by
  simp only [Sub] at h; subst h
  cases hv; exact .val u
 | .agg l, s, v, h, hv => by
  cases s <;> simp only [Sub] at h
  cases hv with
  | agg m cs hl hr => exact .agg _ _ ((subL_get h).1.trans hl) fun i a ha => sub_repL hG hB l _ cs h hl hr i a ha
 | .tup l, s, v, h, hv => by
  cases s <;> simp only [Sub] at h
  cases hv with
  | tup m cs hl hr => exact .tup _ _ ((subL_get h).1.trans hl) fun i a ha => sub_repL hG hB l _ cs h hl hr i a ha
 | .fn f a b, s, v, h, hv => by
  cases s <;> simp only [Sub] at h
  obtain ⟨rfl, h1, h2⟩ := h
  cases hv with
  | fn _ l m cs ds hl hm hr hr' =>
   exact .fn _ _ _ _ _ ((subL_get h1).1.trans hl) ((subL_get h2).1.trans hm) (fun i x hx => sub_repL hG hB a _ cs h1 hl hr i x hx) (fun i x hx => sub_repL hG hB b _ ds h2 hm hr' i x hx)
 | .ref o n row, s, v, h, hv => by
  cases s <;> simp only [Sub] at h
  case ref o' n' row' =>
   obtain ⟨ho, hn, hrow⟩ := h
   cases hv with
   | ref _ _ _ b off f hg hc hr => exact .ref _ _ _ _ _ f (hG _ _ _ ho hg) (fun j hj => hc j (by omega)) fun j hj => sub_rep hG hB (row j) _ _ (hrow j hj) (hr j (by omega))
  case ptr id off =>
   split at h
   ·rename_i t l hb
    cases hv with
    | ptr _ _ b hN hr =>
     obtain ⟨h1, h2⟩ := hB _ _ hb hN
     rw [hr] at h1
     cases h1 with
     | cells _ _ _ cs hb' hl hrep =>
      refine .ref _ _ _ _ _ (fun j => cs.getD (off + j) undef) (h2 b hr _) (fun j hj => cell_at hb' _ (by have := (h j hj).2; omega)) fun j hj => ?_
      obtain ⟨h3, h4⟩ := h j hj
      refine sub_rep hG hB (row j) _ _ h3 (hrep _ _ ?_)
      simp [h4]
   ·exact h.elim
  case elt id k i j0 =>
   split at h
   ·rename_i t k' n' row' hb
    obtain ⟨rfl, hi, hj0, hrow⟩ := h
    cases hv with
    | elt _ _ _ _ b hN hr =>
     obtain ⟨h1, h2⟩ := hB _ _ hb hN
     rw [hr] at h1
     cases h1 with
     | rows _ _ _ _ _ cs hb' hl hrep =>
      have hik : i * k + k ≤ n' * k := by rw [← Nat.succ_mul]; exact Nat.mul_le_mul_right _ hi
      refine .ref _ _ _ _ _ (fun j => cs.getD (i * k + j0 + j) undef) (h2 b hr _) (fun j hj => cell_at hb' _ (by omega)) fun j hj => ?_
      refine sub_rep hG hB (row j) _ _ (hrow j hj) ?_
      rw [Nat.add_assoc]
      exact hrep i (j0 + j) hi (by omega)
   ·exact h.elim
 | .arr o full n k row, s, v, h, hv => by
  cases s <;> simp only [Sub] at h
  case arr o' full' n' k' row' =>
   obtain ⟨ho, hf, rfl, rfl, hrow⟩ := h
   cases hv with
   | arrNil _ _ _ _ a cap hfc => exact .arrNil _ _ _ _ _ _ fun e => hfc (hf e)
   | arr _ _ _ _ _ b off cap f hg hfc hcap hc hr =>
    exact .arr _ _ _ _ _ _ _ _ f (hG _ _ _ ho hg) (fun e => hfc (hf e)) hcap hc fun i j hi hj => sub_rep hG hB (row i j) _ _ (hrow i j hi hj) (hr i j hi hj)
  case vec id n' k' =>
   obtain ⟨rfl, rfl, rfl, h⟩ := h
   split at h
   ·rename_i t k'' m row' hb
    obtain ⟨hnm, rfl, hrow⟩ := h
    cases hv with
    | vecNil _ _ hN hr => exact .arrNil _ _ _ _ _ _ (by simp)
    | vec _ _ _ b cap cs t' hN hr hb' hs hcap hm =>
     obtain ⟨h1, h2⟩ := hB _ _ hb hN
     rw [hr] at h1
     cases h1 with
     | rows _ _ _ _ _ cs' hb'' hl hrep =>
      refine .arr _ _ _ _ _ _ _ _ (fun i j => cs'.getD (i * k + j) undef) (h2 b hr _) (by simp) hcap (fun i j hi hj => ?_) fun i j hi hj => sub_rep hG hB (row i j) _ _ (hrow i j hi hj) (hrep i j (by omega) hj)
      have hik : i * k + k ≤ m * k := by rw [← Nat.succ_mul]; exact Nat.mul_le_mul_right _ (by omega)
      rw [Nat.zero_add]
      exact cell_at hb'' _ (by omega)
   ·exact h.elim
  case asl id off n' k' =>
   obtain ⟨rfl, rfl, rfl, h⟩ := h
   split at h
   ·rename_i t l hb
    obtain ⟨hlen, hrow⟩ := h
    cases hv with
    | asl _ _ _ _ b cap hN hr hcap =>
     obtain ⟨h1, h2⟩ := hB _ _ hb hN
     rw [hr] at h1
     cases h1 with
     | cells _ _ _ cs hb' hl hrep =>
      have hik : ∀ i j, i < n → j < k → off + (i * k + j) < l.length := fun i j hi hj => by
       have : i * k + k ≤ n * k := by rw [← Nat.succ_mul]; exact Nat.mul_le_mul_right _ hi
       omega
      refine .arr _ _ _ _ _ _ _ _ (fun i j => cs.getD (off + (i * k + j)) undef) (h2 b hr _) (by simp) hcap (fun i j hi hj => cell_at hb' _ (by have := hik i j hi hj; omega)) fun i j hi hj => ?_
      refine sub_rep hG hB (row i j) _ _ (hrow i j hi hj) (hrep _ _ ?_)
      have := hik i j hi hj
      simp [this]
   ·exact h.elim
  case cut id n' k' =>
   obtain ⟨rfl, rfl, h⟩ := h
   split at h
   ·rename_i t k'' m row' hb
    obtain ⟨hnm, rfl, hrow⟩ := h
    cases hv with
    | cutNil _ _ hN hr => exact .arrNil _ _ _ _ _ _ (fun _ => rfl)
    | cut _ _ _ b hN hr =>
     obtain ⟨h1, h2⟩ := hB _ _ hb hN
     rw [hr] at h1
     cases h1 with
     | rows _ _ _ _ _ cs' hb'' hl hrep =>
      refine .arr _ _ _ _ _ _ _ _ (fun i j => cs'.getD (i * k + j) undef) (h2 b hr _) (fun _ => rfl) (Nat.le_refl _) (fun i j hi hj => ?_) fun i j hi hj => sub_rep hG hB (row i j) _ _ (hrow i j hi hj) (hrep i j (by omega) hj)
      have hik : i * k + k ≤ m * k := by rw [← Nat.succ_mul]; exact Nat.mul_le_mul_right _ (by omega)
      rw [Nat.zero_add]
      exact cell_at hb'' _ (by omega)
   ·exact h.elim
  case val u =>
   obtain ⟨h1, rfl⟩ := h
   obtain rfl := nilSlice_eq h1
   cases hv
   exact .arrNil _ _ _ _ _ _ (fun _ => rfl)
 | .cmp o fit dom get, s, v, h, hv => by
  cases s <;> simp only [Sub] at h
  case cmp o' fit' dom' get' =>
   obtain ⟨ho, rfl, rfl, hrow⟩ := h
   cases hv with
   | cmp _ _ _ _ b es clock hg hb hm hr =>
    exact .cmp _ _ _ _ b es clock (hG _ _ _ ho hg) hb hm fun e he => sub_rep hG hB (get e.key) _ _ (hrow _ (hm.doms e he)) (hr e he)
  case mp id =>
   split at h
   ·rename_i fit' dom' get' hb
    obtain ⟨rfl, rfl, hrow⟩ := h
    cases hv with
    | mp _ b hN hr =>
     obtain ⟨h1, h2⟩ := hB _ _ hb hN
     rw [hr] at h1
     cases h1 with
     | map _ _ _ _ es clock hb' hm ht hrep =>
      exact .cmp _ _ _ _ b es clock (h2 b hr _) hb' hm fun e he => sub_rep hG hB (get e.key) _ _ (hrow _ (hm.doms e he)) (hrep e he)
   ·rename_i fit' dom' get' st' c' hb
    obtain ⟨rfl, rfl, hrow⟩ := h
    cases hv with
    | mp _ b hN hr =>
     obtain ⟨h1, h2⟩ := hB _ _ hb hN
     rw [hr] at h1
     cases h1 with
     | mapS _ _ _ _ _ es _ hb' hm ht hst hrep =>
      exact .cmp _ _ _ _ b es _ (h2 b hr _) hb' hm fun e he => sub_rep hG hB (get e.key) _ _ (hrow _ (hm.doms e he)) (hrep e he)
   ·exact h.elim
 | .cut _ _ _, s, v, h, _ => by simp [Sub] at h
 | .ptr _ _, s, v, h, _ => by simp [Sub] at h
 | .elt _ _ _ _, s, v, h, _ => by simp [Sub] at h
 | .vec _ _ _, s, v, h, _ => by simp [Sub] at h
 | .mp _, s, v, h, _ => by simp [Sub] at h
 | .asl _ _ _ _, s, v, h, _ => by simp [Sub] at h
 | .que _ _ _ _, s, v, h, _ => by simp [Sub] at h
 | .yld _, s, v, h, _ => by simp [Sub] at h
theorem sub_repL (hG : ∀ o o' b, (o = true → o' = true) → G o' b → G' o b) (hB : ∀ id x, blk hp id = some x → N id → BlkRep r N G w (r id) x ∧ ∀ b, r id = some b → ∀ o, G' o b) :
  ∀ (l m : List SV) (cs : Array Value), SubL hp l m → m.length = cs.size → (∀ i sv, m[i]? = some sv → Rep r N G w sv (cs.getD i undef)) → ∀ (i : Nat) (a : SV), l[i]? = some a → Rep noR noN G' w a (cs.getD i undef)
 | [], m, cs, h, hl, hr, i, a, ha => by simp at ha
 | p :: l, m, cs, h, hl, hr, i, a, ha => by
  cases m with
  | nil => simp [SubL] at h
  | cons b m =>
   simp only [SubL] at h
   cases i with
   | zero =>
    simp at ha; subst ha
    exact sub_rep hG hB p b _ h.1 (hr 0 b (by simp))
   | succ i =>
    have := sub_repL hG hB l m (cs.extract 1 cs.size) h.2 (by simp at hl ⊢; omega) (fun j sv hj => by
     have h1 := hr (j + 1) sv (by simpa using hj)
     have hlt : j < m.length := (List.getElem?_eq_some_iff.1 hj).1
     have e : (cs.extract 1 cs.size).getD j undef = cs.getD (j + 1) undef := by
      simp only [Array.getD_eq_getD_getElem?, Array.getElem?_extract]
      rw [if_pos (by simp at hl; omega), Nat.add_comm]
     rw [e]; exact h1) i a (by simpa using ha)
    have hlt : i < l.length := by simp at ha; exact (List.getElem?_eq_some_iff.1 ha).1
    have hlm := (subL_get h.2).1
    have e : (cs.extract 1 cs.size).getD i undef = cs.getD (i + 1) undef := by
     simp only [Array.getD_eq_getD_getElem?, Array.getElem?_extract]
     rw [if_pos (by simp at hl; omega), Nat.add_comm]
    rwa [e] at this
end
theorem fresh_rep (hG : ∀ b, G true b → G' true b) {p : SV} {v : Value} (h : Rep noR noN G w p v) (hf : Fresh p) : Rep r N G' w p v := by
 induction h with
 | top v => exact .top v
 | val v => exact .val v
 | agg l cs hl _ ih => exact .agg l cs hl fun i sv hi => ih i sv hi (freshL_get (by simpa only [Fresh] using hf) i sv hi)
 | tup l cs hl _ ih => exact .tup l cs hl fun i sv hi => ih i sv hi (freshL_get (by simpa only [Fresh] using hf) i sv hi)
 | fn f l m cs ds hl hm _ _ ih ih' =>
  simp only [Fresh] at hf
  exact .fn f l m cs ds hl hm (fun i sv hi => ih i sv hi (freshL_get hf.1 i sv hi)) (fun i sv hi => ih' i sv hi (freshL_get hf.2 i sv hi))
 | ref o n row b off f hg hc _ ih =>
  simp only [Fresh] at hf
  obtain ⟨rfl, hf⟩ := hf
  exact .ref _ _ _ _ _ f (hG _ hg) hc fun j hj => ih j hj (hf j hj)
 | arrNil o full k row a cap hfc => exact .arrNil _ _ _ _ _ _ hfc
 | arr o full n k row b off cap f hg hfc hcap hc _ ih =>
  simp only [Fresh] at hf
  obtain ⟨rfl, hf⟩ := hf
  exact .arr _ _ _ _ _ _ _ _ f (hG _ hg) hfc hcap hc fun i j hi hj => ih i j hi hj (hf i j hi hj)
 | cmp o fit dom get b es clock hg hb hm _ ih =>
  simp only [Fresh] at hf
  obtain ⟨rfl, hf⟩ := hf
  exact .cmp _ _ _ _ b es clock (hG _ hg) hb hm fun e he => ih e he (hf _ (hm.doms e he))
 | cutNil id k hN => exact hN.elim
 | cut id n k b hN => exact hN.elim
 | ptr id off b hN => exact hN.elim
 | elt id k i j b hN => exact hN.elim
 | vecNil id k hN => exact hN.elim
 | vec id n k b cap cs t hN => exact hN.elim
 | mp id b hN => exact hN.elim
 | asl id off n k b cap hN => exact hN.elim
 | queNil id off k a hN => exact hN.elim
 | que id off n k b cap cs t hN => exact hN.elim
 | yld id b hN => exact hN.elim
theorem closed_rep (hG : ∀ o b, G o b → G' o b) {p : SV} {v : Value} (h : Rep noR noN G w p v) : Rep r N G' w p v := by
 induction h with
 | top v => exact .top v
 | val v => exact .val v
 | agg l cs hl _ ih => exact .agg l cs hl ih
 | tup l cs hl _ ih => exact .tup l cs hl ih
 | fn f l m cs ds hl hm _ _ ih ih' => exact .fn f l m cs ds hl hm ih ih'
 | ref o n row b off f hg hc _ ih => exact .ref _ _ _ _ _ f (hG _ _ hg) hc ih
 | arrNil o full k row a cap hfc => exact .arrNil _ _ _ _ _ _ hfc
 | arr o full n k row b off cap f hg hfc hcap hc _ ih => exact .arr _ _ _ _ _ _ _ _ f (hG _ _ hg) hfc hcap hc ih
 | cmp o fit dom get b es clock hg hb hm _ ih => exact .cmp _ _ _ _ b es clock (hG _ _ hg) hb hm ih
 | cutNil id k hN => exact hN.elim
 | cut id n k b hN => exact hN.elim
 | ptr id off b hN => exact hN.elim
 | elt id k i j b hN => exact hN.elim
 | vecNil id k hN => exact hN.elim
 | vec id n k b cap cs t hN => exact hN.elim
 | mp id b hN => exact hN.elim
 | asl id off n k b cap hN => exact hN.elim
 | queNil id off k a hN => exact hN.elim
 | que id off n k b cap cs t hN => exact hN.elim
 | yld id b hN => exact hN.elim
theorem fresh_rep' {r0 : Nat → Option Nat} {N0 : Nat → Prop} (hG : ∀ b, G true b → G' true b) {p : SV} {v : Value} (h : Rep r0 N0 G w p v) (hf : Fresh p) : Rep r N G' w p v := by
 induction h with
 | top v => exact .top v
 | val v => exact .val v
 | agg l cs hl _ ih => exact .agg l cs hl fun i sv hi => ih i sv hi (freshL_get (by simpa only [Fresh] using hf) i sv hi)
 | tup l cs hl _ ih => exact .tup l cs hl fun i sv hi => ih i sv hi (freshL_get (by simpa only [Fresh] using hf) i sv hi)
 | fn f l m cs ds hl hm _ _ ih ih' =>
  simp only [Fresh] at hf
  exact .fn f l m cs ds hl hm (fun i sv hi => ih i sv hi (freshL_get hf.1 i sv hi)) (fun i sv hi => ih' i sv hi (freshL_get hf.2 i sv hi))
 | ref o n row b off f hg hc _ ih =>
  simp only [Fresh] at hf
  obtain ⟨rfl, hf⟩ := hf
  exact .ref _ _ _ _ _ f (hG _ hg) hc fun j hj => ih j hj (hf j hj)
 | arrNil o full k row a cap hfc => exact .arrNil _ _ _ _ _ _ hfc
 | arr o full n k row b off cap f hg hfc hcap hc _ ih =>
  simp only [Fresh] at hf
  obtain ⟨rfl, hf⟩ := hf
  exact .arr _ _ _ _ _ _ _ _ f (hG _ hg) hfc hcap hc fun i j hi hj => ih i j hi hj (hf i j hi hj)
 | cmp o fit dom get b es clock hg hb hm _ ih =>
  simp only [Fresh] at hf
  obtain ⟨rfl, hf⟩ := hf
  exact .cmp _ _ _ _ b es clock (hG _ hg) hb hm fun e he => ih e he (hf _ (hm.doms e he))
 | ptr id off b hN => simp [Fresh] at hf
 | elt id k i j b hN => simp [Fresh] at hf
 | vecNil id k hN => simp [Fresh] at hf
 | vec id n k b cap cs t hN => simp [Fresh] at hf
 | mp id b hN => simp [Fresh] at hf
 | asl id off n k b cap hN => simp [Fresh] at hf
 | queNil id off k a hN => simp [Fresh] at hf
 | que id off n k b cap cs t hN => simp [Fresh] at hf
 | yld id b hN => simp [Fresh] at hf
 | cutNil id k hN => simp [Fresh] at hf
 | cut id n k b hN => simp [Fresh] at hf
end
mutual
def setId (id : Nat) : SV → SV
 | .agg l => .agg (setIdL id l)
 | .tup l => .tup (setIdL id l)
 | .fn f a b => .fn f (setIdL id a) (setIdL id b)
 | .ptr _ off => .ptr id off
 | .elt _ k i j => .elt id k i j
 | .vec _ n k => .vec id n k
 | .mp _ => .mp id
 | .asl _ off n k => .asl id off n k
 | .que _ off n k => .que id off n k
 | .cut _ n k => .cut id n k
 | .yld _ => .yld id
 | .top => .top
 | .val v => .val v
 | .ref o n row => .ref o n row
 | .arr o full n k row => .arr o full n k row
 | .cmp o fit dom get => .cmp o fit dom get
def setIdL (id : Nat) : List SV → List SV
 | [] => []
 | a :: l => setId id a :: setIdL id l
end
mutual
def FreshO : SV → Prop
 | .agg l => FreshOL l
 | .tup l => FreshOL l
 | .fn _ a b => FreshOL a ∧ FreshOL b
 | .ref o n row => o = true ∧ ∀ j, j < n → Fresh (row j)
 | .arr o _ n k row => o = true ∧ ∀ i j, i < n → j < k → Fresh (row i j)
 | .cmp o _ dom get => o = true ∧ ∀ key, dom key = true → Fresh (get key)
 | _ => True
def FreshOL : List SV → Prop
 | [] => True
 | a :: l => FreshO a ∧ FreshOL l
end
def FreshB : Blk → Prop
 | .cells _ l => FreshL l
 | .rows _ k n row => ∀ i j, i < n → j < k → Fresh (row i j)
 | .map _ dom get => ∀ key, dom key = true → Fresh (get key)
 | _ => False
theorem setIdL_get (id : Nat) : ∀ (l : List SV) (i : Nat), (setIdL id l)[i]? = (l[i]?).map (setId id)
 | [], i => by simp [setIdL]
 | a :: l, 0 => by simp [setIdL]
 | a :: l, i + 1 => by simp [setIdL, setIdL_get id l i]
theorem setIdL_length (id : Nat) (l : List SV) : (setIdL id l).length = l.length := by induction l <;> simp [setIdL, *]
theorem freshOL_get : ∀ {l : List SV}, FreshOL l → ∀ (i : Nat) (a : SV), l[i]? = some a → FreshO a
 | [], _, i, a, h => by simp at h
 | b :: l, hf, i, a, h => by
  simp only [FreshOL] at hf
  cases i with
  | zero => simp at h; subst h; exact hf.1
  | succ i => exact freshOL_get hf.2 i a (by simpa using h)
def oneR (ob : Option Nat) : Nat → Option Nat := fun i => if i = 0 then ob else none
def oneN : Nat → Prop := fun i => i = 0
section
variable {r : Nat → Option Nat} {N : Nat → Prop} {G G' : Bool → Nat → Prop} {w : World} {hp : List (Nat × Blk)}
theorem own_rep {ob : Option Nat} {id : Nat} (hr : r id = ob) (hN : N id) (hG : ∀ b, G true b → G' true b) {p : SV} {v : Value} (h : Rep (oneR ob) oneN G w p v) (hf : FreshO p) : Rep r N G' w (setId id p) v := by
 have hget : ∀ {i}, oneN i → r id = oneR ob i := fun {i} hi => by have : i = 0 := hi; subst this; rw [hr]; simp [oneR]
 induction h with
 | top v => exact .top v
 | val v => exact .val v
 | agg l cs hl _ ih =>
  simp only [FreshO] at hf
  refine .agg _ cs (by rw [setIdL_length]; exact hl) fun i sv hi => ?_
  rw [setIdL_get] at hi
  simp only [Option.map_eq_some_iff] at hi
  obtain ⟨a, ha, rfl⟩ := hi
  exact ih i a ha (freshOL_get hf i a ha)
 | tup l cs hl _ ih =>
  simp only [FreshO] at hf
  refine .tup _ cs (by rw [setIdL_length]; exact hl) fun i sv hi => ?_
  rw [setIdL_get] at hi
  simp only [Option.map_eq_some_iff] at hi
  obtain ⟨a, ha, rfl⟩ := hi
  exact ih i a ha (freshOL_get hf i a ha)
 | fn f l m cs ds hl hm _ _ ih ih' =>
  simp only [FreshO] at hf
  refine .fn f _ _ cs ds (by rw [setIdL_length]; exact hl) (by rw [setIdL_length]; exact hm) (fun i sv hi => ?_) fun i sv hi => ?_
  ·rw [setIdL_get] at hi
   simp only [Option.map_eq_some_iff] at hi
   obtain ⟨a, ha, rfl⟩ := hi
   exact ih i a ha (freshOL_get hf.1 i a ha)
  ·rw [setIdL_get] at hi
   simp only [Option.map_eq_some_iff] at hi
   obtain ⟨a, ha, rfl⟩ := hi
   exact ih' i a ha (freshOL_get hf.2 i a ha)
 | ref o n row b off f hg hc hrow _ => exact fresh_rep' hG (.ref o n row b off f hg hc hrow) (by simpa only [setId, FreshO, Fresh] using hf)
 | arrNil o full k row a cap hfc => exact .arrNil _ _ _ _ _ _ hfc
 | arr o full n k row b off cap f hg hfc hcap hc hrow _ => exact fresh_rep' hG (.arr o full n k row b off cap f hg hfc hcap hc hrow) (by simpa only [setId, FreshO, Fresh] using hf)
 | cmp o fit dom get b es clock hg hb hm hrow _ => exact fresh_rep' hG (.cmp o fit dom get b es clock hg hb hm hrow) (by simpa only [setId, FreshO, Fresh] using hf)
 | ptr i off b hi hri => exact .ptr _ _ _ hN ((hget hi).trans hri)
 | elt i k x j b hi hri => exact .elt _ _ _ _ _ hN ((hget hi).trans hri)
 | vecNil i k hi hri => exact .vecNil _ _ hN ((hget hi).trans hri)
 | vec i n k b cap cs t hi hri hb hs hcap hm => exact .vec _ _ _ _ cap cs t hN ((hget hi).trans hri) hb hs hcap hm
 | mp i b hi hri => exact .mp _ _ hN ((hget hi).trans hri)
 | asl i off n k b cap hi hri hcap => exact .asl _ _ _ _ _ _ hN ((hget hi).trans hri) hcap
 | queNil i off k a hi => exact .queNil _ _ _ _ hN
 | que i off n k b cap cs t hi hri hb hs hcap hm => exact .que _ _ _ _ _ cap cs t hN ((hget hi).trans hri) hb hs hcap hm
 | cutNil i k hi hri => exact .cutNil _ _ hN ((hget hi).trans hri)
 | cut i n k b hi hri => exact .cut _ _ _ _ hN ((hget hi).trans hri)
 | yld i b hi hri => exact .yld _ _ hN ((hget hi).trans hri)
theorem own_blk {r0 : Nat → Option Nat} {N0 : Nat → Prop} (hG : ∀ b, G true b → G' true b) {ob : Option Nat} {b : Blk} (h : BlkRep r0 N0 G w ob b) (hf : FreshB b) : BlkRep r N G' w ob b := by
 cases h with
 | cells t l b cs hb hl h => exact .cells t l b cs hb hl fun i sv hi => fresh_rep' hG (h i sv hi) (freshL_get hf i sv hi)
 | none t k row => exact .none t k row
 | rows t k n row b cs hb hl h => exact .rows t k n row b cs hb hl fun i j hi hj => fresh_rep' hG (h i j hi hj) (hf i j hi hj)
 | map fit dom get b es clock hb hm ht h => exact .map fit dom get b es clock hb hm ht fun e he => fresh_rep' hG (h e he) (hf _ (hm.doms e he))
 | mapS _ _ _ _ _ _ _ => exact hf.elim
 | iter _ _ _ _ _ _ _ => exact hf.elim
 | loop _ _ _ _ => exact hf.elim
end
mutual
def Cl : SV → Prop
 | .top => True
 | .val _ => True
 | .agg l => ClL l
 | .tup l => ClL l
 | .fn _ a b => ClL a ∧ ClL b
 | .ref _ n row => ∀ j, j < n → Cl (row j)
 | .arr _ _ n k row => ∀ i j, i < n → j < k → Cl (row i j)
 | .cmp _ _ dom get => ∀ key, dom key = true → Cl (get key)
 | _ => False
def ClL : List SV → Prop
 | [] => True
 | a :: l => Cl a ∧ ClL l
end
mutual
def ClO : SV → Prop
 | .agg l => ClOL l
 | .tup l => ClOL l
 | .fn _ a b => ClOL a ∧ ClOL b
 | .ref _ n row => ∀ j, j < n → Cl (row j)
 | .arr _ _ n k row => ∀ i j, i < n → j < k → Cl (row i j)
 | .cmp _ _ dom get => ∀ key, dom key = true → Cl (get key)
 | _ => True
def ClOL : List SV → Prop
 | [] => True
 | a :: l => ClO a ∧ ClOL l
end
def ClB : Blk → Prop
 | .cells _ l => ClL l
 | .rows _ k n row => ∀ i j, i < n → j < k → Cl (row i j)
 | .map _ dom get => ∀ key, dom key = true → Cl (get key)
 | _ => False
theorem clL_get : ∀ {l : List SV}, ClL l → ∀ (i : Nat) (a : SV), l[i]? = some a → Cl a
 | [], _, i, a, h => by simp at h
 | b :: l, hf, i, a, h => by
  simp only [ClL] at hf
  cases i with
  | zero => simp at h; subst h; exact hf.1
  | succ i => exact clL_get hf.2 i a (by simpa using h)
theorem clOL_get : ∀ {l : List SV}, ClOL l → ∀ (i : Nat) (a : SV), l[i]? = some a → ClO a
 | [], _, i, a, h => by simp at h
 | b :: l, hf, i, a, h => by
  simp only [ClOL] at hf
  cases i with
  | zero => simp at h; subst h; exact hf.1
  | succ i => exact clOL_get hf.2 i a (by simpa using h)
section
variable {r : Nat → Option Nat} {N : Nat → Prop} {G G' : Bool → Nat → Prop} {w : World} {hp : List (Nat × Blk)}
theorem cl_rep {r0 : Nat → Option Nat} {N0 : Nat → Prop} (hG : ∀ o b, G o b → G' o b) {p : SV} {v : Value} (h : Rep r0 N0 G w p v) (hf : Cl p) : Rep r N G' w p v := by
 induction h with
 | top v => exact .top v
 | val v => exact .val v
 | agg l cs hl _ ih => exact .agg l cs hl fun i sv hi => ih i sv hi (clL_get (by simpa only [Cl] using hf) i sv hi)
 | tup l cs hl _ ih => exact .tup l cs hl fun i sv hi => ih i sv hi (clL_get (by simpa only [Cl] using hf) i sv hi)
 | fn f l m cs ds hl hm _ _ ih ih' =>
  simp only [Cl] at hf
  exact .fn f l m cs ds hl hm (fun i sv hi => ih i sv hi (clL_get hf.1 i sv hi)) (fun i sv hi => ih' i sv hi (clL_get hf.2 i sv hi))
 | ref o n row b off f hg hc _ ih =>
  simp only [Cl] at hf
  exact .ref _ _ _ _ _ f (hG _ _ hg) hc fun j hj => ih j hj (hf j hj)
 | arrNil o full k row a cap hfc => exact .arrNil _ _ _ _ _ _ hfc
 | arr o full n k row b off cap f hg hfc hcap hc _ ih =>
  simp only [Cl] at hf
  exact .arr _ _ _ _ _ _ _ _ f (hG _ _ hg) hfc hcap hc fun i j hi hj => ih i j hi hj (hf i j hi hj)
 | cmp o fit dom get b es clock hg hb hm _ ih =>
  simp only [Cl] at hf
  exact .cmp _ _ _ _ b es clock (hG _ _ hg) hb hm fun e he => ih e he (hf _ (hm.doms e he))
 | ptr id off b hN => simp [Cl] at hf
 | elt id k i j b hN => simp [Cl] at hf
 | vecNil id k hN => simp [Cl] at hf
 | vec id n k b cap cs t hN => simp [Cl] at hf
 | mp id b hN => simp [Cl] at hf
 | asl id off n k b cap hN => simp [Cl] at hf
 | queNil id off k a hN => simp [Cl] at hf
 | que id off n k b cap cs t hN => simp [Cl] at hf
 | yld id b hN => simp [Cl] at hf
 | cutNil id k hN => simp [Cl] at hf
 | cut id n k b hN => simp [Cl] at hf
theorem cl_own {ob : Option Nat} {id : Nat} (hr : r id = ob) (hN : N id) (hG : ∀ o b, G o b → G' o b) {p : SV} {v : Value} (h : Rep (oneR ob) oneN G w p v) (hf : ClO p) : Rep r N G' w (setId id p) v := by
 have hget : ∀ {i}, oneN i → r id = oneR ob i := fun {i} hi => by have : i = 0 := hi; subst this; rw [hr]; simp [oneR]
 induction h with
 | top v => exact .top v
 | val v => exact .val v
 | agg l cs hl _ ih =>
  simp only [ClO] at hf
  refine .agg _ cs (by rw [setIdL_length]; exact hl) fun i sv hi => ?_
  rw [setIdL_get] at hi
  simp only [Option.map_eq_some_iff] at hi
  obtain ⟨a, ha, rfl⟩ := hi
  exact ih i a ha (clOL_get hf i a ha)
 | tup l cs hl _ ih =>
  simp only [ClO] at hf
  refine .tup _ cs (by rw [setIdL_length]; exact hl) fun i sv hi => ?_
  rw [setIdL_get] at hi
  simp only [Option.map_eq_some_iff] at hi
  obtain ⟨a, ha, rfl⟩ := hi
  exact ih i a ha (clOL_get hf i a ha)
 | fn f l m cs ds hl hm _ _ ih ih' =>
  simp only [ClO] at hf
  refine .fn f _ _ cs ds (by rw [setIdL_length]; exact hl) (by rw [setIdL_length]; exact hm) (fun i sv hi => ?_) fun i sv hi => ?_
  ·rw [setIdL_get] at hi
   simp only [Option.map_eq_some_iff] at hi
   obtain ⟨a, ha, rfl⟩ := hi
   exact ih i a ha (clOL_get hf.1 i a ha)
  ·rw [setIdL_get] at hi
   simp only [Option.map_eq_some_iff] at hi
   obtain ⟨a, ha, rfl⟩ := hi
   exact ih' i a ha (clOL_get hf.2 i a ha)
 | ref o n row b off f hg hc hrow _ => exact cl_rep hG (.ref o n row b off f hg hc hrow) (by simpa only [setId, ClO, Cl] using hf)
 | arrNil o full k row a cap hfc => exact .arrNil _ _ _ _ _ _ hfc
 | arr o full n k row b off cap f hg hfc hcap hc hrow _ => exact cl_rep hG (.arr o full n k row b off cap f hg hfc hcap hc hrow) (by simpa only [setId, ClO, Cl] using hf)
 | cmp o fit dom get b es clock hg hb hm hrow _ => exact cl_rep hG (.cmp o fit dom get b es clock hg hb hm hrow) (by simpa only [setId, ClO, Cl] using hf)
 | ptr i off b hi hri => exact .ptr _ _ _ hN ((hget hi).trans hri)
 | elt i k x j b hi hri => exact .elt _ _ _ _ _ hN ((hget hi).trans hri)
 | vecNil i k hi hri => exact .vecNil _ _ hN ((hget hi).trans hri)
 | vec i n k b cap cs t hi hri hb hs hcap hm => exact .vec _ _ _ _ cap cs t hN ((hget hi).trans hri) hb hs hcap hm
 | mp i b hi hri => exact .mp _ _ hN ((hget hi).trans hri)
 | asl i off n k b cap hi hri hcap => exact .asl _ _ _ _ _ _ hN ((hget hi).trans hri) hcap
 | queNil i off k a hi => exact .queNil _ _ _ _ hN
 | que i off n k b cap cs t hi hri hb hs hcap hm => exact .que _ _ _ _ _ cap cs t hN ((hget hi).trans hri) hb hs hcap hm
 | cutNil i k hi hri => exact .cutNil _ _ hN ((hget hi).trans hri)
 | cut i n k b hi hri => exact .cut _ _ _ _ hN ((hget hi).trans hri)
 | yld i b hi hri => exact .yld _ _ hN ((hget hi).trans hri)
theorem cl_blk {r0 : Nat → Option Nat} {N0 : Nat → Prop} (hG : ∀ o b, G o b → G' o b) {ob : Option Nat} {b : Blk} (h : BlkRep r0 N0 G w ob b) (hf : ClB b) : BlkRep r N G' w ob b := by
 cases h with
 | cells t l b cs hb hl h => exact .cells t l b cs hb hl fun i sv hi => cl_rep hG (h i sv hi) (clL_get hf i sv hi)
 | none t k row => exact .none t k row
 | rows t k n row b cs hb hl h => exact .rows t k n row b cs hb hl fun i j hi hj => cl_rep hG (h i j hi hj) (hf i j hi hj)
 | map fit dom get b es clock hb hm ht h => exact .map fit dom get b es clock hb hm ht fun e he => cl_rep hG (h e he) (hf _ (hm.doms e he))
 | mapS _ _ _ _ _ _ _ => exact hf.elim
 | iter _ _ _ _ _ _ _ => exact hf.elim
 | loop _ _ _ _ => exact hf.elim
end
def NewOk (hp : List (Nat × Blk)) (pats args : List SV) (b : Blk) (res : SV) : Prop := (SubL hp pats args ∧ FreshO res ∧ FreshB b) ∨ (SubL [] pats args ∧ ClO res ∧ ClB b)
def ContractN (P : Program) (f : FuncId) (args : List SV) (b : Blk) (res : SV) : Prop :=
 (∃ fn, P.funcs[f]? = some fn ∧ (fn.name == "runtime.NumGoroutine") = false ∧ fn.body.isSome = true) ∧
 ∀ (okc : Nat → Prop) (w : World) (vs : Array Value), args.length = vs.size →
  (∀ i sv, args[i]? = some sv → Rep noR noN (fun _ b => okc b ∧ b < w.heap.size) w sv (vs.getD i undef)) →
  Calls P f vs w fun e w' => ∃ v ob, e = .returned v ∧ Below w.heap.size w w' ∧ (∀ c, ob = some c → w.heap.size ≤ c) ∧
   BlkRep (oneR ob) oneN (fun o b => b < w'.heap.size ∧ ob ≠ some b ∧ if o = true then w.heap.size ≤ b else okc b ∨ w.heap.size ≤ b) w' ob b ∧
   Rep (oneR ob) oneN (fun o b => b < w'.heap.size ∧ ob ≠ some b ∧ if o = true then w.heap.size ≤ b else okc b ∨ w.heap.size ≤ b) w' res v
end Go.Sx
end
section
set_option linter.unusedVariables false
set_option linter.unusedSimpArgs false
namespace Go.Sx
open Go.RowKit
def env (F : Nat → SV) : Operand → SV
 | .tmp t => F t
 | .const v => .val v
 | .global _ => .top
 | .func f => .fn (.func f) [] []
def envs (F : Nat → SV) : List Operand → List SV
 | [] => []
 | x :: l => env F x :: envs F l
def rLen (ti : Option TyI) (x : SV) : Res :=
 match ti with
 | some ⟨_, _, _, .slice _ _⟩ =>
  match x with
  | .arr _ _ n _ _ => .pure True (.val (.int .i64 n))
  | .vec _ n _ => .pure True (.val (.int .i64 n))
  | .asl _ _ n _ => .pure True (.val (.int .i64 n))
  | .que _ _ n _ => .pure True (.val (.int .i64 n))
  | .cut _ n _ => .pure True (.val (.int .i64 n))
  | .val (.slice none 0 0) => .pure True (.val (.int .i64 0))
  | _ => .bad
 | some ⟨_, _, _, .array n _ _⟩ => .pure True (.val (.int .i64 n))
 | _ => .bad
def rMin2 (mx : Bool) : SV → SV → SV
 | .val (.int k a), .val (.int k' b) => if eqKind k k' = true then .val (.int k (if mx then max a b else min a b)) else .top
 | _, _ => .top
def rMin (mx : Bool) : List SV → Res
 | [a, b] => match rMin2 mx a b with
  | .val v => .pure True (.val v)
  | _ => .bad
 | [a, b, c] => match rMin2 mx (rMin2 mx a b) c with
  | .val v => .pure True (.val v)
  | _ => .bad
 | _ => .bad
def envp (F : Nat → SV) : List (Nat × Operand) → List (Nat × SV)
 | [] => []
 | x :: l => (x.1, env F x.2) :: envp F l
def rCall (P : Program) (fr : Nat → SV) (hp : List (Nat × Blk)) (c : Call) : Res :=
 match c.callee with
 | .value f => match env fr f with
  | .fn (.func g) first caps => .call g (first ++ (envs fr c.args.toList ++ caps))
  | .yld id => .yield id (envs fr c.args.toList)
  | _ => .bad
 | .builtin .len => match c.args.toList, c.argTypes.toList with
  | [x], [t] => rLen (tyOf P t) (env fr x)
  | _, _ => .bad
 | .builtin .min => rMin false (envs fr c.args.toList)
 | .builtin .max => rMin true (envs fr c.args.toList)
 | .builtin .append => match c.args.toList, c.argTypes.toList with
  | [s, x], [t, t'] => if t = t' then rAppend P t hp (env fr s) (env fr x) else .bad
  | _, _ => .bad
 | .builtin .copy => match c.args.toList, c.argTypes.toList with
  | [d, x], [t, t'] => rCopy P t hp (env fr d) (env fr x)
  | _, _ => .bad
 | .builtin .clear => match c.args.toList, c.argTypes.toList with
  | [d], [t] => match env fr d with
   | .mp id => rClearMap (mapInfo P t) hp (.mp id)
   | x => rClear P t hp x
  | _, _ => .bad
 | .builtin .delete => match c.args.toList, c.argTypes.toList with
  | [m, k], [t, t'] => rDelete (mapInfo P t) hp (env fr m) (env fr k)
  | _, _ => .bad
 | _ => .bad
def rIndex (P : Program) (t : TypeId) (x i : SV) : Res :=
 match i with
 | .val (.int _ i) => match tyOf P t, x with
  | some ⟨_, _, _, .array n e k⟩, .agg l => match tyOf P e with
   | some ⟨true, _, _, _⟩ => .pure (0 ≤ i ∧ i < n ∧ i.toNat * k + k ≤ l.length) (.agg ((l.drop (i.toNat * k)).take k))
   | some ⟨false, _, _, _⟩ => .ex (fun s => 0 ≤ i ∧ i < n ∧ k = 1 ∧ l[i.toNat]? = some s)
   | none => .bad
  | _, _ => .bad
 | _ => .bad
def stepR (P : Program) (fr : Nat → SV) (hp : List (Nat × Blk)) (op : Op) : Res :=
 match op with
 | .move x => .pure True (env fr x)
 | .assign x => .pure True (env fr x)
 | .pick c a b => rPick (env fr c) (env fr a) (env fr b)
 | .alloc t => rAlloc (tyOf P t) t
 | .box t x => rBox (tyOf P t) t (env fr x)
 | .load t x => rLoad (tyOf P t) hp (env fr x)
 | .store t a x => rStore (tyOf P t) hp (env fr a) (env fr x)
 | .nilCheck x => rNil (env fr x)
 | .binOp op t x y _ => rBin P op t (env fr x) (env fr y)
 | .unOp op _ x => rUn op (env fr x)
 | .convert s t x => rConv (tyOf P s) (tyOf P t) (env fr x)
 | .makeFunc f fs cs => .pure True (.fn f (envs fr fs.toList) (envs fr cs.toList))
 | .fieldAddr t x i => rFieldAddr (tyOf P t) (env fr x) i
 | .field t x i => rField (tyOf P t) (env fr x) i
 | .indexAddr t x i => rIndexAddr (tyOf P t) (env fr x) (env fr i)
 | .extract x i => rExtract (env fr x) i
 | .call c => rCall P fr hp c
 | .build t parts => rBuild P t (envp fr parts.toList)
 | .buildSlice t len parts => rBuildSlice P t len (envp fr parts.toList)
 | .makeSlice t l c => rMakeSlice P t (env fr l) (env fr c)
 | .slice t x lo hi mx => rSlice (tyOf P t) (env fr x) (lo.map (env fr)) (hi.map (env fr)) (mx.map (env fr))
 | .makeMap t rs => rMakeMap (mapInfo P t) rs.isSome
 | .lookup t x k ok => rLookup (mapInfo P t) hp (env fr x) (env fr k) ok
 | .mapUpdate t m k x => rUpdate (mapInfo P t) hp (env fr m) (env fr k) (env fr x)
 | .insert t m k x => rUpdate (mapInfo P t) hp (env fr m) (env fr k) (env fr x)
 | .index t x i => rIndex P t (env fr x) (env fr i)
 | .range _ _ => .raw
 | .next _ _ => .raw
 | .entry _ => .raw
 | _ => .bad
section
variable {P : Program} {base : World} {okc : Nat → Prop} {r : Nat → Option Nat} {N : Nat → Prop} {w : World} {hp : List (Nat × Blk)}
def resK (P : Program) (base : World) (okc : Nat → Prop) (r : Nat → Option Nat) (N : Nat → Prop) (hp : List (Nat × Blk)) (w : World) (id : Nat) (hp' : List (Nat × Blk)) (a : Act) (dst : Option Tmp) (K : Act → World → Prop) : Res → Prop
 | .bad => False
 | .pure obl sv => obl ∧ ∀ v, Rep r N (Gd base okc r N hp w) w sv v → K (a.put dst v) w
 | .ex obl => ∃ sv, obl sv ∧ ∀ v, Rep r N (Gd base okc r N hp w) w sv v → K (a.put dst v) w
 | .new obl b mk => obl ∧ ¬ N id ∧ blk hp' id = some b ∧ (∀ j, N j → blk hp' j = blk hp j) ∧ ∀ v w' r', Step base okc r N hp w r' (plus N id) hp' w' → Rep r' (plus N id) (Gd base okc r' (plus N id) hp' w') w' (mk id) v → K (a.put dst v) w'
 | .upd obl j b => obl ∧ ∀ w', Step base okc r N hp w r N (setBlk hp j b) w' → K (a.put dst undef) w'
 | .updv obl j b sv => obl ∧ ∀ v w', Step base okc r N hp w r N (setBlk hp j b) w' → Rep r N (Gd base okc r N (setBlk hp j b) w') w' sv v → K (a.put dst v) w'
 | .grow obl old b mk => obl ∧ ¬ N id ∧ ∃ hp2, blk hp2 id = some b ∧ (∀ j, N j → j ≠ old → blk hp2 j = blk hp j) ∧ blk hp2 old = none ∧ ∀ v w' r', Step base okc r N hp w r' (plus N id) hp2 w' → Rep r' (plus N id) (Gd base okc r' (plus N id) hp2 w') w' (mk id) v → K (a.put dst v) w'
 | .call f args => (∃ pats res, Contract P f pats res ∧ ((SubL hp pats args ∧ Fresh res) ∨ SubL [] pats args) ∧ ∀ v w', Step base okc r N hp w r N hp w' → Rep r N (Gd base okc r N hp w') w' res v → K (a.put dst v) w') ∨
  (∃ pats b res, ContractN P f pats b res ∧ NewOk hp pats args b res ∧ ¬ N id ∧ ∃ hp2, blk hp2 id = some b ∧ (∀ j, N j → blk hp2 j = blk hp j) ∧ ∀ v w' r', Step base okc r N hp w r' (plus N id) hp2 w' → Rep r' (plus N id) (Gd base okc r' (plus N id) hp2 w') w' (setId id res) v → K (a.put dst v) w')
 | .yield _ _ => False
 | .raw => False
theorem envs_get (fr : Nat → SV) (l : List Operand) (i : Nat) : (envs fr l)[i]? = (l[i]?).map (env fr) := by
 induction l generalizing i with
 | nil => simp [envs]
 | cons a l ih => cases i <;> simp [envs, ih]
theorem envs_length (fr : Nat → SV) (l : List Operand) : (envs fr l).length = l.length := by induction l <;> simp [envs, *]
def kept : Res → Bool
 | .pure _ _ => true
 | .ex _ => true
 | .new _ _ _ => true
 | .bad => true
 | _ => false
theorem of_good {o : Oper} {a : Act} {K : Act → World → Prop} {Q : Exit → Act → World → Prop} {id : Nat} {hp' : List (Nat × Blk)} {s : Sem Value} {res : Res}
  (hr : execOp a.eval o = (do pure (.value (← s)))) (hg : Good P r N (Gd base okc r N hp w) w s res)
  (hn : GoodN P base okc r N hp w s res) (hu : kept res = true) (h : resK P base okc r N hp w id hp' a o.dst K res) : o.wp P a w K Q := by
 unfold Oper.wp
 rw [hr, Sem.run_bind]
 cases res with
 | bad => exact h.elim
 | pure obl sv =>
  obtain ⟨v, hv, hrep⟩ := hg h.1
  rw [hv]
  exact h.2 v hrep
 | ex obl =>
  obtain ⟨sv, ho, hk⟩ := h
  obtain ⟨v, hv, hrep⟩ := hg sv ho
  rw [hv]
  exact hk v hrep
 | new obl b mk =>
  obtain ⟨h0, h1, h2, h3, h4⟩ := h
  obtain ⟨v, w', r', hv, hs, hrep⟩ := hn h0 id hp' h1 h2 h3
  rw [hv]
  exact h4 v w' r' hs hrep
 | upd obl j b => cases hu
 | call f args => cases hu
 | updv obl j b sv => cases hu
 | grow obl old b mk => cases hu
 | yield _ _ => cases hu
 | raw => cases hu
theorem of_goodU {o : Oper} {a : Act} {K : Act → World → Prop} {Q : Exit → Act → World → Prop} {id : Nat} {hp' : List (Nat × Blk)} {s : Sem Unit} {res : Res}
  (hr : execOp a.eval o = (do s; pure .skip)) (hu : GoodU P base okc r N hp w s res)
  (hb : (∃ obl j b, res = .upd obl j b) ∨ res = .bad) (h : resK P base okc r N hp w id hp' a o.dst K res) : o.wp P a w K Q := by
 unfold Oper.wp
 rw [hr, Sem.run_bind]
 rcases hb with ⟨obl, j, b, rfl⟩ | rfl
 ·obtain ⟨w', hv, hs⟩ := hu h.1
  rw [hv]
  exact h.2 w' hs
 ·exact h.elim
theorem rStore_form (ti : Option TyI) (hp : List (Nat × Blk)) (a v : SV) : (∃ obl j b, rStore ti hp a v = .upd obl j b) ∨ rStore ti hp a v = .bad := by
 unfold rStore
 split
 ·split
  ·split
   ·exact .inl ⟨_, _, _, rfl⟩
   ·exact .inr rfl
  ·split
   ·exact .inl ⟨_, _, _, rfl⟩
   ·exact .inr rfl
  ·exact .inr rfl
 ·split
  ·split
   ·split
    ·exact .inl ⟨_, _, _, rfl⟩
    ·exact .inr rfl
   ·split
    ·exact .inl ⟨_, _, _, rfl⟩
    ·exact .inr rfl
   ·exact .inr rfl
  ·exact .inr rfl
 ·exact .inr rfl
def stays : Res → Bool
 | .pure _ _ => true
 | .ex _ => true
 | .bad => true
 | _ => false
theorem of_stays {o : Oper} {a : Act} {K : Act → World → Prop} {Q : Exit → Act → World → Prop} {id : Nat} {hp' : List (Nat × Blk)} {s : Sem Value} {res : Res}
  (hr : execOp a.eval o = (do pure (.value (← s)))) (hg : Good P r N (Gd base okc r N hp w) w s res) (hs : stays res = true) (h : resK P base okc r N hp w id hp' a o.dst K res) : o.wp P a w K Q :=
 of_good hr hg (by cases res <;> first | trivial | (simp [stays] at hs)) (by cases res <;> first | rfl | (simp [stays] at hs)) h
theorem of_new {o : Oper} {a : Act} {K : Act → World → Prop} {Q : Exit → Act → World → Prop} {id : Nat} {hp' : List (Nat × Blk)} {s : Sem Value} {res : Res}
  (hr : execOp a.eval o = (do pure (.value (← s)))) (hg : GoodN P base okc r N hp w s res) (hs : (∃ obl b mk, res = .new obl b mk) ∨ res = .bad) (h : resK P base okc r N hp w id hp' a o.dst K res) : o.wp P a w K Q :=
 of_good hr (by rcases hs with ⟨_, _, _, rfl⟩ | rfl <;> trivial) hg (by rcases hs with ⟨_, _, _, rfl⟩ | rfl <;> rfl) h
theorem rep_env {fr : Nat → SV} {a : Act} (x : Operand) (ha : ∀ i, x = .tmp i → Rep r N (Gd base okc r N hp w) w (fr i) (a.tmps.getD i undef)) : Rep r N (Gd base okc r N hp w) w (env fr x) (a.eval x) := by
 cases x with
 | tmp t => exact ha t rfl
 | const v => exact .val v
 | global g => exact .top _
 | func f => exact .fn _ _ _ _ _ rfl rfl (fun i sv h => by simp at h) (fun i sv h => by simp at h)
theorem rep_envs {fr : Nat → SV} {a : Act} (xs : Array Operand) (ha : ∀ x, x ∈ xs → Rep r N (Gd base okc r N hp w) w (env fr x) (a.eval x)) :
  (envs fr xs.toList).length = (xs.map a.eval).size ∧ ∀ i sv, (envs fr xs.toList)[i]? = some sv → Rep r N (Gd base okc r N hp w) w sv ((xs.map a.eval).getD i undef) := by
 refine ⟨by simp [envs_length], fun i sv hi => ?_⟩
 rw [envs_get] at hi
 cases hx : xs.toList[i]? with
 | none => simp [hx] at hi
 | some x =>
  simp only [hx, Option.map_some, Option.some.injEq] at hi
  subst hi
  have : xs[i]? = some x := by simpa using hx
  simp only [Array.getD_eq_getD_getElem?, Array.getElem?_map, this, Option.map_some, Option.getD_some]
  exact ha x (Array.mem_of_getElem? this)
theorem append_get {l m : List SV} {cs ds : Array Value} (hl : l.length = cs.size) (hm : m.length = ds.size) {G : Bool → Nat → Prop} (h : ∀ i sv, l[i]? = some sv → Rep r N G w sv (cs.getD i undef)) (h' : ∀ i sv, m[i]? = some sv → Rep r N G w sv (ds.getD i undef)) :
  (l ++ m).length = (cs ++ ds).size ∧ ∀ i sv, (l ++ m)[i]? = some sv → Rep r N G w sv ((cs ++ ds).getD i undef) := by
 refine ⟨by simp [hl, hm], fun i sv hi => ?_⟩
 by_cases hlt : i < l.length
 ·rw [List.getElem?_append_left hlt] at hi
  have : (cs ++ ds).getD i undef = cs.getD i undef := by
   simp only [Array.getD_eq_getD_getElem?]
   rw [Array.getElem?_append_left (by omega)]
  rw [this]; exact h i sv hi
 ·rw [List.getElem?_append_right (by omega)] at hi
  have : (cs ++ ds).getD i undef = ds.getD (i - l.length) undef := by
   simp only [Array.getD_eq_getD_getElem?]
   rw [Array.getElem?_append_right (by omega), hl]
  rw [this]; exact h' _ sv hi
theorem run_call {f : FuncId} {args : List SV} {vs : Array Value} (h : Sat base okc r N hp w) (hl : args.length = vs.size) (ha : ∀ i sv, args[i]? = some sv → Rep r N (Gd base okc r N hp w) w sv (vs.getD i undef))
  {pats : List SV} {res : SV} (hc : Contract P f pats res) (hs : (SubL hp pats args ∧ Fresh res) ∨ SubL [] pats args) {o : Oper} {a : Act} {K : Act → World → Prop} {Q : Exit → Act → World → Prop}
  (hk : ∀ v w', Step base okc r N hp w r N hp w' → Rep r N (Gd base okc r N hp w') w' res v → K (a.put o.dst v) w') : o.upon P a K Q ((callFunc f vs).run P w) := by
 obtain ⟨⟨fn, hf, hname, hbody⟩, hc⟩ := hc
 have hrun : (callFunc f vs).run P w = .ok (.enter f vs) w := by
  have : fn.body.isNone = false := by cases hb : fn.body <;> simp_all
  simp only [callFunc, Sem.run_bind, run_program, Result.andThen_ok, hf, hname, Bool.false_eq_true, if_false, this, Sem.run_pure]
 rw [hrun, Oper.upon_enter]
 rcases hs with ⟨hs, hfr⟩ | hs
 ·have hlen := (subL_get hs).1
  refine (hc (fun _ => True) w vs (hlen.trans hl) (fun i sv hi => sub_repL (G := Gd base okc r N hp w) (fun _ _ b _ hb => ⟨trivial, hb.1⟩) (fun id x hx hN => ⟨h.rep id x hx hN, fun b hb _ => ⟨trivial, h.lt hx hN hb⟩⟩) pats args vs hs hl ha i sv hi)).mono fun e w' => ?_
  rintro ⟨v, rfl, hb, hrep⟩
  have hst := h.grow hb
  refine hk v w' hst (fresh_rep (fun b hb' => ⟨hb'.1, fun id x hx hN e => ?_, ?_⟩) hrep hfr)
  ·have := h.lt hx hN e
   have := hb'.2
   simp only [if_true] at this
   omega
  ·have := hb'.2
   simp only [if_true] at this ⊢
   have := h.below.size
   omega
 ·have hlen := (subL_get hs).1
  refine (hc (fun b => Gd base okc r N hp w false b) w vs (hlen.trans hl) (fun i sv hi => sub_repL (hp := []) (G := Gd base okc r N hp w) (fun _ o' b _ hb => ⟨⟨hb.1, hb.2.1, by have := hb.2.2; cases o' <;> simp_all⟩, hb.1⟩) (fun id x hx hN => by simp [blk] at hx) pats args vs hs hl ha i sv hi)).mono fun e w' => ?_
  rintro ⟨v, rfl, hb, hrep⟩
  have hst := h.grow hb
  refine hk v w' hst (closed_rep (fun o b hb' => ?_) hrep)
  obtain ⟨h1, h2⟩ := hb'
  have hsz := h.below.size
  cases o with
  | true =>
   simp only [if_true] at h2
   exact ⟨h1, fun id x hx hN e => by have := h.lt hx hN e; omega, by simp only [if_true]; omega⟩
  | false =>
   simp only [Bool.false_eq_true, if_false] at h2
   rcases h2 with h2 | h2
   ·exact ⟨h1, h2.2.1, h2.2.2⟩
   ·exact ⟨h1, fun id x hx hN e => by have := h.lt hx hN e; omega, by simp only [Bool.false_eq_true, if_false]; right; omega⟩
theorem run_callN {f : FuncId} {args : List SV} {vs : Array Value} (h : Sat base okc r N hp w) (hl : args.length = vs.size) (ha : ∀ i sv, args[i]? = some sv → Rep r N (Gd base okc r N hp w) w sv (vs.getD i undef))
  {pats : List SV} {bb : Blk} {res : SV} (hc : ContractN P f pats bb res) (hs : NewOk hp pats args bb res) {id : Nat} (hid : ¬ N id) {hp2 : List (Nat × Blk)} (hat : blk hp2 id = some bb) (hoth : ∀ j, N j → blk hp2 j = blk hp j) {o : Oper} {a : Act} {K : Act → World → Prop} {Q : Exit → Act → World → Prop}
  (hk : ∀ v w' r', Step base okc r N hp w r' (plus N id) hp2 w' → Rep r' (plus N id) (Gd base okc r' (plus N id) hp2 w') w' (setId id res) v → K (a.put o.dst v) w') : o.upon P a K Q ((callFunc f vs).run P w) := by
 obtain ⟨⟨fn, hf, hname, hbody⟩, hc⟩ := hc
 have hrun : (callFunc f vs).run P w = .ok (.enter f vs) w := by
  have : fn.body.isNone = false := by cases hb : fn.body <;> simp_all
  simp only [callFunc, Sem.run_bind, run_program, Result.andThen_ok, hf, hname, Bool.false_eq_true, if_false, this, Sem.run_pure]
 rw [hrun, Oper.upon_enter]
 rcases hs with ⟨hs, hfo, hfb⟩ | ⟨hs, hfo, hfb⟩
 ·have hlen := (subL_get hs).1
  refine (hc (fun _ => True) w vs (hlen.trans hl) (fun i sv hi => sub_repL (G := Gd base okc r N hp w) (fun _ _ b _ hb => ⟨trivial, hb.1⟩) (fun id x hx hN => ⟨h.rep id x hx hN, fun b hb _ => ⟨trivial, h.lt hx hN hb⟩⟩) pats args vs hs hl ha i sv hi)).mono fun e w' => ?_
  rintro ⟨v, ob, rfl, hb, hob, hblk, hrep⟩
  have hst := h.exch (w' := w') id hid none (hp' := hp2) bb ob hat (fun j hj _ => hoth j hj) (fun o ho => by cases ho) (h.below.trans (hb.mono h.below.size)) (Shapes.below hb) hb.size (fun c hc _ => hb.block c hc) (fun c hc => .inr (hob c hc)) fun r' N' G' _ _ _ hnew =>
   own_blk (fun c hc => by
    have h2 := hc.2.2
    simp only [if_true] at h2
    exact hnew true c h2 hc.1 hc.2.1) hblk hfb
  refine hk v w' _ hst (own_rep (ob := ob) (upd_same _ _ _) (.inr rfl) (fun c hc => ?_) hrep hfo)
  have h2 := hc.2.2
  simp only [if_true] at h2
  refine ⟨hc.1, fun j y hy hN => ?_, ?_⟩
  ·rcases hN with e | e
   ·have hne : j ≠ id := fun e' => hid (by rw [← e']; exact e)
    rw [upd_other _ hne]
    intro e'
    rw [hoth j e] at hy
    exact absurd (h.lt hy e e') (by omega)
   ·subst e; rw [upd_same]; exact hc.2.1
  ·have := h.below.size
   simp only [if_true]; omega
 ·have hlen := (subL_get hs).1
  refine (hc (fun b => Gd base okc r N hp w false b) w vs (hlen.trans hl) (fun i sv hi => sub_repL (hp := []) (G := Gd base okc r N hp w) (fun _ o' b _ hb => ⟨⟨hb.1, hb.2.1, by have := hb.2.2; cases o' <;> simp_all⟩, hb.1⟩) (fun id x hx hN => by simp [blk] at hx) pats args vs hs hl ha i sv hi)).mono fun e w' => ?_
  rintro ⟨v, ob, rfl, hb, hob, hblk, hrep⟩
  have hst := h.exch (w' := w') id hid none (hp' := hp2) bb ob hat (fun j hj _ => hoth j hj) (fun o ho => by cases ho) (h.below.trans (hb.mono h.below.size)) (Shapes.below hb) hb.size (fun c hc _ => hb.block c hc) (fun c hc => .inr (hob c hc)) fun r' N' G' _ _ hold hnew =>
   cl_blk (fun o c hc => by
    obtain ⟨h0, h1, h2⟩ := hc
    cases o with
    | true => simp only [if_true] at h2; exact hnew true c h2 h0 h1
    | false =>
     simp only [Bool.false_eq_true, if_false] at h2
     rcases h2 with h2 | h2
     ·exact (hold false c h2).1
     ·exact hnew false c h2 h0 h1) hblk hfb
  refine hk v w' _ hst (cl_own (ob := ob) (upd_same _ _ _) (.inr rfl) (fun o c hc => ?_) hrep hfo)
  obtain ⟨g0, g1, g2⟩ := hc
  have hbs := h.below.size
  have key : w.heap.size ≤ c ∨ Gd base okc r N hp w o c := by
   cases o with
   | true => simp only [if_true] at g2; exact .inl g2
   | false =>
    simp only [Bool.false_eq_true, if_false] at g2
    rcases g2 with g2 | g2
    ·exact .inr g2
    ·exact .inl g2
  rcases key with key | key
  ·refine ⟨g0, fun j y hy hN => ?_, ?_⟩
   ·rcases hN with e | e
    ·have hne : j ≠ id := fun e' => hid (by rw [← e']; exact e)
     rw [upd_other _ hne]
     intro e'
     rw [hoth j e] at hy
     exact absurd (h.lt hy e e') (by omega)
    ·subst e; rw [upd_same]; exact g1
   ·cases o <;> simp only [if_true, Bool.false_eq_true, if_false] <;> first | omega | (right; omega)
  ·exact (hst.gg o c key).1
theorem min2_run (x y : SV) {u v z : Value} {G : Bool → Nat → Prop} (hx : Rep r N G w x u) (hy : Rep r N G w y v) (h : rMin2 false x y = .val z) : (Builtin.min2 u v).run P w = .ok z w := by
 unfold rMin2 at h
 split at h
 ·cases hx; cases hy
  rename_i k a k' b
  split at h
  ·rename_i e
   obtain rfl := eqKind_eq e
   cases h
   simp only [Builtin.min2, Sem.run_pure, Bool.false_eq_true, if_false]
   congr 2
   split <;> omega
  ·cases h
 ·cases h
theorem max2_run (x y : SV) {u v z : Value} {G : Bool → Nat → Prop} (hx : Rep r N G w x u) (hy : Rep r N G w y v) (h : rMin2 true x y = .val z) : (Builtin.max2 u v).run P w = .ok z w := by
 unfold rMin2 at h
 split at h
 ·cases hx; cases hy
  rename_i k a k' b
  split at h
  ·rename_i e
   obtain rfl := eqKind_eq e
   cases h
   simp only [Builtin.max2, Sem.run_pure, if_true]
   congr 2
   split <;> omega
  ·cases h
 ·cases h
theorem run_len {t ty : TypeId} {x : SV} {u : Value} {G : Bool → Nat → Prop} (hx : Rep r N G w x u) {obl : Prop} {sv : SV} (h : rLen (tyOf P t) x = .pure obl sv) : ∃ v, (Builtin.len_ #[t] ty #[u]).run P w = .ok v w ∧ Rep r N G w sv v := by
 unfold rLen at h
 split at h
 ·rename_i ag sz z e k ht
  obtain ⟨i, hu, _, _⟩ := slice_of ht rfl
  have key : ∀ (a : Option Addr) (n c : Nat), (Builtin.len_ #[t] ty #[.slice a n c]).run P w = .ok (.int .i64 n) w := fun a n c => by
   simp [Builtin.len_, run_underlying hu, goInt]
  split at h <;> simp only [Res.pure.injEq, reduceCtorEq] at h <;> obtain ⟨rfl, rfl⟩ := h <;> cases hx <;> exact ⟨_, key _ _ _, .val _⟩
 ·rename_i ag sz z n e k ht
  obtain ⟨i, hu, _, _⟩ := array_of ht rfl
  simp only [Res.pure.injEq] at h
  obtain ⟨rfl, rfl⟩ := h
  refine ⟨.int .i64 n, ?_, .val _⟩
  simp [Builtin.len_, run_underlying hu, goInt]
 ·cases h
theorem list2 {α : Type} {xs : Array α} {a b : α} (h : xs.toList = [a, b]) : xs = #[a, b] := by cases xs; simp_all
theorem list1 {α : Type} {xs : Array α} {a : α} (h : xs.toList = [a]) : xs = #[a] := by cases xs; simp_all
theorem list3 {α : Type} {xs : Array α} {a b c : α} (h : xs.toList = [a, b, c]) : xs = #[a, b, c] := by cases xs; simp_all
theorem envs2 {fr : Nat → SV} {l : List Operand} {a b : SV} (h : envs fr l = [a, b]) : ∃ x y, l = [x, y] ∧ env fr x = a ∧ env fr y = b := by
 match l, h with
 | [x, y], h => simp only [envs, List.cons.injEq, and_true] at h; exact ⟨x, y, rfl, h.1, h.2⟩
 | [], h => simp [envs] at h
 | [x], h => simp [envs] at h
 | x :: y :: z :: l, h => simp [envs] at h
theorem envs3 {fr : Nat → SV} {l : List Operand} {a b c : SV} (h : envs fr l = [a, b, c]) : ∃ x y z, l = [x, y, z] ∧ env fr x = a ∧ env fr y = b ∧ env fr z = c := by
 match l, h with
 | [x, y, z], h => simp only [envs, List.cons.injEq, and_true] at h; exact ⟨x, y, z, rfl, h.1, h.2.1, h.2.2⟩
 | [], h => simp [envs] at h
 | [x], h => simp [envs] at h
 | [x, y], h => simp [envs] at h
 | x :: y :: z :: u :: l, h => simp [envs] at h
theorem run_minmax (mx : Bool) {fr : Nat → SV} {a : Act} {xs : Array Operand} (ha : ∀ x, x ∈ xs → Rep r N (Gd base okc r N hp w) w (env fr x) (a.eval x)) {ts : Array TypeId} {t : TypeId} {obl : Prop} {sv : SV} (h : rMin mx (envs fr xs.toList) = .pure obl sv) :
  ∃ v, (if mx = true then Builtin.max_ ts t (xs.map a.eval) else Builtin.min_ ts t (xs.map a.eval)).run P w = .ok v w ∧ Rep r N (Gd base okc r N hp w) w sv v := by
 unfold rMin at h
 split at h
 ·rename_i x y he
  obtain ⟨ox, oy, hl, rfl, rfl⟩ := envs2 he
  have hxs := list2 hl
  subst hxs
  split at h
  ·rename_i v hv
   simp only [Res.pure.injEq] at h
   obtain ⟨rfl, rfl⟩ := h
   refine ⟨v, ?_, .val v⟩
   cases mx with
   | true =>
    have := max2_run (P := P) _ _ (ha ox (by simp)) (ha oy (by simp)) hv
    simp [Builtin.max_, this]
   | false =>
    have := min2_run (P := P) _ _ (ha ox (by simp)) (ha oy (by simp)) hv
    simp [Builtin.min_, this]
  ·cases h
 ·rename_i x y z he
  obtain ⟨ox, oy, oz, hl, rfl, rfl, rfl⟩ := envs3 he
  have hxs := list3 hl
  subst hxs
  split at h
  ·rename_i v hv
   simp only [Res.pure.injEq] at h
   obtain ⟨rfl, rfl⟩ := h
   refine ⟨v, ?_, .val v⟩
   cases hm : rMin2 mx (env fr ox) (env fr oy) with
   | val u =>
    rw [hm] at hv
    cases mx with
    | true =>
     have h1 := max2_run (P := P) _ _ (ha ox (by simp)) (ha oy (by simp)) hm
     have h2 := max2_run (P := P) (w := w) _ _ (.val u) (ha oz (by simp)) hv
     simp [Builtin.max_, h1, h2]
    | false =>
     have h1 := min2_run (P := P) _ _ (ha ox (by simp)) (ha oy (by simp)) hm
     have h2 := min2_run (P := P) (w := w) _ _ (.val u) (ha oz (by simp)) hv
     simp [Builtin.min_, h1, h2]
   | _ => rw [hm] at hv; simp [rMin2] at hv
  ·cases h
 ·cases h
theorem envp_length (fr : Nat → SV) (l : List (Nat × Operand)) : (envp fr l).length = l.length := by induction l <;> simp [envp, *]
theorem envp_at (fr : Nat → SV) (l : List (Nat × Operand)) (i : Nat) : (envp fr l)[i]? = (l[i]?).map fun x => (x.1, env fr x.2) := by
 induction l generalizing i with
 | nil => simp [envp]
 | cons a l ih => cases i <;> simp [envp, ih]
theorem envp_get {fr : Nat → SV} {a : Act} {G : Bool → Nat → Prop} (parts : Array (Nat × Operand)) (ha : ∀ x, (∃ i, (i, x) ∈ parts) → Rep r N G w (env fr x) (a.eval x)) (i : Nat) (p : Nat × SV) (q : Nat × Value) (hp : (envp fr parts.toList)[i]? = some p) (hq : (parts.map fun (i, x) => (i, a.eval x)).toList[i]? = some q) :
  p.1 = q.1 ∧ Rep r N G w p.2 q.2 := by
 rw [envp_at] at hp
 cases hx : parts.toList[i]? with
 | none => rw [hx] at hp; simp at hp
 | some x =>
  rw [hx] at hp
  simp only [Option.map_some, Option.some.injEq] at hp
  subst hp
  have hx' : parts[i]? = some x := by simpa using hx
  simp only [Array.getElem?_toList, Array.getElem?_map, hx', Option.map_some, Option.some.injEq] at hq
  subst hq
  exact ⟨rfl, ha _ ⟨x.1, Array.mem_of_getElem? hx'⟩⟩
theorem repO_map {fr : Nat → SV} {a : Act} {G : Bool → Nat → Prop} (x : Option Operand) (ha : ∀ y, x = some y → Rep r N G w (env fr y) (a.eval y)) : RepO r N G w (x.map (env fr)) (x.map a.eval) := by
 cases x with
 | none => trivial
 | some x => exact ha x rfl
theorem rSlice_stays (ti : Option TyI) (x : SV) (lo hi mx : Option SV) : stays (rSlice ti x lo hi mx) = true := by
 unfold rSlice
 (repeat' split) <;> rfl
theorem rBuild_stays (t : TypeId) (parts : List (Nat × SV)) : stays (rBuild P t parts) = true := by
 unfold rBuild
 (repeat' split) <;> rfl
theorem rBuildSlice_form (t : TypeId) (len : Nat) (parts : List (Nat × SV)) : (∃ obl b mk, rBuildSlice P t len parts = .new obl b mk) ∨ rBuildSlice P t len parts = .bad := by
 unfold rBuildSlice
 (repeat' split) <;> first | exact .inl ⟨_, _, _, rfl⟩ | exact .inr rfl
theorem rMakeSlice_form (t : TypeId) (l c : SV) : (∃ obl b mk, rMakeSlice P t l c = .new obl b mk) ∨ rMakeSlice P t l c = .bad := by
 unfold rMakeSlice
 (repeat' split) <;> first | exact .inl ⟨_, _, _, rfl⟩ | exact .inr rfl
theorem rAppend_form (t : TypeId) (s x : SV) : (∃ obl b mk, rAppend P t hp s x = .new obl b mk) ∨ (∃ obl o b mk, rAppend P t hp s x = .grow obl o b mk) ∨ rAppend P t hp s x = .bad := by
 unfold rAppend
 (repeat' split) <;> first | exact .inl ⟨_, _, _, rfl⟩ | exact .inr (.inl ⟨_, _, _, _, rfl⟩) | exact .inr (.inr rfl)
theorem rCopy_form (t : TypeId) (s x : SV) : (∃ obl j b sv, rCopy P t hp s x = .updv obl j b sv) ∨ rCopy P t hp s x = .bad := by
 unfold rCopy
 (repeat' split) <;> first | exact .inl ⟨_, _, _, _, rfl⟩ | exact .inr rfl
theorem rClear_form (t : TypeId) (s : SV) : (∃ obl j b, rClear P t hp s = .upd obl j b) ∨ rClear P t hp s = .bad := by
 unfold rClear
 (repeat' split) <;> first | exact .inl ⟨_, _, _, rfl⟩ | exact .inr rfl
theorem step_append (h : Sat base okc r N hp w) {s x : SV} {u v : Value} (hs : Rep r N (Gd base okc r N hp w) w s u) (hx : Rep r N (Gd base okc r N hp w) w x v) {t ty : TypeId} {o : Oper} {a : Act} {K : Act → World → Prop} {Q : Exit → Act → World → Prop} {id : Nat} {hp' : List (Nat × Blk)}
  (he : execOp a.eval o = (do pure (.value (← Builtin.append_ #[t, t] ty #[u, v])))) (hk : resK P base okc r N hp w id hp' a o.dst K (rAppend P t hp s x)) : o.wp P a w K Q := by
 obtain ⟨g1, g2⟩ := run_append (P := P) h t ty hs hx
 rcases rAppend_form (P := P) (hp := hp) t s x with ⟨obl, b, mk, hres⟩ | ⟨obl, o, b, mk, hres⟩ | hres
 ·rw [hres] at hk g1
  exact of_new he g1 (.inl ⟨_, _, _, rfl⟩) hk
 ·rw [hres] at hk g2
  obtain ⟨h0, h1, hp2, h2, h3, h4, h5⟩ := hk
  obtain ⟨v, w', r', hv, hs, hrep⟩ := g2 h0 id hp2 h1 h2 h3 h4
  unfold Oper.wp
  rw [he, Sem.run_bind, hv]
  exact h5 v w' r' hs hrep
 ·rw [hres] at hk; exact hk.elim
theorem step_copy (h : Sat base okc r N hp w) {d x : SV} {u v : Value} (hd : Rep r N (Gd base okc r N hp w) w d u) (hx : Rep r N (Gd base okc r N hp w) w x v) {t t' ty : TypeId} {o : Oper} {a : Act} {K : Act → World → Prop} {Q : Exit → Act → World → Prop} {id : Nat} {hp' : List (Nat × Blk)}
  (he : execOp a.eval o = (do pure (.value (← Builtin.copy_ #[t, t'] ty #[u, v])))) (hk : resK P base okc r N hp w id hp' a o.dst K (rCopy P t hp d x)) : o.wp P a w K Q := by
 have g1 := run_copyS (P := P) h t ty t' hd hx
 rcases rCopy_form (P := P) (hp := hp) t d x with ⟨obl, j, b, sv, hres⟩ | hres
 ·rw [hres] at hk g1
  obtain ⟨v, w', hv, hs, hrep⟩ := g1 hk.1
  unfold Oper.wp
  rw [he, Sem.run_bind, hv]
  exact hk.2 v w' hs hrep
 ·rw [hres] at hk; exact hk.elim
theorem step_clear (h : Sat base okc r N hp w) {d : SV} {u : Value} (hd : Rep r N (Gd base okc r N hp w) w d u) {t ty : TypeId} {o : Oper} {a : Act} {K : Act → World → Prop} {Q : Exit → Act → World → Prop} {id : Nat} {hp' : List (Nat × Blk)}
  (he : execOp a.eval o = (do pure (.value (← Builtin.clear_ #[t] ty #[u])))) (hk : resK P base okc r N hp w id hp' a o.dst K (rClear P t hp d)) : o.wp P a w K Q := by
 rcases rClear_form (P := P) (hp := hp) t d with ⟨obl, j, b, hres⟩ | hres
 ·have hres' := hres
  rw [hres] at hk
  obtain ⟨w', hv, hs⟩ := run_clearS (P := P) h t ty hd hres' hk.1
  unfold Oper.wp
  rw [he, Sem.run_bind, hv]
  exact hk.2 w' hs
 ·rw [hres] at hk; exact hk.elim
theorem step_slice (h : Sat base okc r N hp w) {x : SV} {lo hi mx : Option SV} {u : Value} {vlo vhi vmx : Option Value} (hx : Rep r N (Gd base okc r N hp w) w x u) (hlo : RepO r N (Gd base okc r N hp w) w lo vlo) (hhi : RepO r N (Gd base okc r N hp w) w hi vhi) (hmx : RepO r N (Gd base okc r N hp w) w mx vmx) {t : TypeId}
  {o : Oper} {a : Act} {K : Act → World → Prop} {Q : Exit → Act → World → Prop} {id : Nat} {hp' : List (Nat × Blk)}
  (he : execOp a.eval o = (do pure (.value (← Instr.sliceAt t u vlo vhi vmx)))) (hk : resK P base okc r N hp w id hp' a o.dst K (rSlice (tyOf P t) x lo hi mx)) : o.wp P a w K Q :=
 of_stays he (run_slice t hx hlo hhi hmx) (rSlice_stays _ _ _ _ _) hk
theorem step_build {fr : Nat → SV} {a : Act} {parts : Array (Nat × Operand)} (hx : ∀ x, (∃ i, (i, x) ∈ parts) → Rep r N (Gd base okc r N hp w) w (env fr x) (a.eval x)) {t : TypeId}
  {o : Oper} {K : Act → World → Prop} {Q : Exit → Act → World → Prop} {id : Nat} {hp' : List (Nat × Blk)}
  (he : execOp a.eval o = (do pure (.value (← Instr.build t (parts.map fun (i, x) => (i, a.eval x)))))) (hk : resK P base okc r N hp w id hp' a o.dst K (rBuild P t (envp fr parts.toList))) : o.wp P a w K Q :=
 of_stays he (run_buildS (by simp [envp_length]) fun i p q hp hq => envp_get parts hx i p q hp hq) (rBuild_stays _ _) hk
theorem step_buildSlice (h : Sat base okc r N hp w) {fr : Nat → SV} {a : Act} {parts : Array (Nat × Operand)} (hx : ∀ x, (∃ i, (i, x) ∈ parts) → Rep r N (Gd base okc r N hp w) w (env fr x) (a.eval x)) {t : TypeId} {len : Nat}
  {o : Oper} {K : Act → World → Prop} {Q : Exit → Act → World → Prop} {id : Nat} {hp' : List (Nat × Blk)}
  (he : execOp a.eval o = (do pure (.value (← Instr.buildSlice t len (parts.map fun (i, x) => (i, a.eval x)))))) (hk : resK P base okc r N hp w id hp' a o.dst K (rBuildSlice P t len (envp fr parts.toList))) : o.wp P a w K Q :=
 of_new he (run_buildSliceS h t len (by simp [envp_length]) fun i p q hp hq => envp_get parts hx i p q hp hq) (rBuildSlice_form _ _ _) hk
theorem rUpdate_form (mi : Option MapI) (hp : List (Nat × Blk)) (m k x : SV) : (∃ obl j b, rUpdate mi hp m k x = .upd obl j b) ∨ rUpdate mi hp m k x = .bad := by
 unfold rUpdate; (repeat' split) <;> first | exact .inl ⟨_, _, _, rfl⟩ | exact .inr rfl
theorem rDelete_form (mi : Option MapI) (hp : List (Nat × Blk)) (m k : SV) : (∃ obl j b, rDelete mi hp m k = .upd obl j b) ∨ rDelete mi hp m k = .bad := by
 unfold rDelete; (repeat' split) <;> first | exact .inl ⟨_, _, _, rfl⟩ | exact .inr rfl
theorem rClearMap_form (mi : Option MapI) (hp : List (Nat × Blk)) (m : SV) : (∃ obl j b, rClearMap mi hp m = .upd obl j b) ∨ rClearMap mi hp m = .bad := by
 unfold rClearMap; (repeat' split) <;> first | exact .inl ⟨_, _, _, rfl⟩ | exact .inr rfl
theorem rLookup_stays (mi : Option MapI) (hp : List (Nat × Blk)) (x k : SV) (ok : Bool) : stays (rLookup mi hp x k ok) = true := by
 unfold rLookup; (repeat' split) <;> rfl
theorem rIndex_stays (t : TypeId) (x i : SV) : stays (rIndex P t x i) = true := by
 unfold rIndex; (repeat' split) <;> rfl
theorem rMakeMap_form (mi : Option MapI) (b : Bool) : (∃ obl bb mk, rMakeMap mi b = .new obl bb mk) ∨ rMakeMap mi b = .bad := by
 unfold rMakeMap; (repeat' split) <;> first | exact .inl ⟨_, _, _, rfl⟩ | exact .inr rfl
theorem run_indexS {t : TypeId} {G : Bool → Nat → Prop} {x i : SV} {u v : Value} (hx : Rep r N G w x u) (hi : Rep r N G w i v) : Good P r N G w (Instr.index t u v) (rIndex P t x i) := by
 unfold rIndex
 split
 ·rename_i kk i
  cases hi
  split
  ·rename_i ag sz z n e k l ht
   obtain ⟨hu, ei, hei, hk⟩ := array_of' ht
   cases hx with
   | agg _ cs hl hr =>
    have hsz : (sizeOf e).run P w = .ok k w := by rw [run_sizeOf_info hei, hk]
    split
    ·rename_i sz' z' d' hte
     rintro ⟨h1, h2, h3⟩
     refine ⟨.agg (cs.extract (i.toNat * k) (i.toNat * k + k)), ?_, .agg _ _ (by simp; omega) fun j sv hj => ?_⟩
     ·simp only [Instr.index, asIntOf, Sem.run_bind, Sem.run_pure, Result.andThen_ok, run_underlying hu, h1, h2, and_self, if_true, hsz, part, run_isAgg' hte]
     ·rw [List.getElem?_take] at hj
      split at hj
      ·rename_i hjk
       rw [List.getElem?_drop] at hj
       have := hr _ sv hj
       have e : (cs.extract (i.toNat * k) (i.toNat * k + k)).getD j undef = cs.getD (i.toNat * k + j) undef := by
        simp only [Array.getD_eq_getD_getElem?, Array.getElem?_extract]
        rw [if_pos (by omega)]
       rw [e]; exact this
      ·cases hj
    ·rename_i sz' z' d' hte
     rintro sv ⟨h1, h2, rfl, h3⟩
     have hlt : i.toNat < cs.size := by rw [← hl]; exact (List.getElem?_eq_some_iff.1 h3).1
     refine ⟨cs.getD i.toNat undef, ?_, hr _ sv h3⟩
     simp only [Instr.index, asIntOf, Sem.run_bind, Sem.run_pure, Result.andThen_ok, run_underlying hu, h1, h2, and_self, if_true, hsz, part, run_isAgg' hte, Bool.false_eq_true, if_false, Nat.mul_one]
     simp [hlt]
    ·trivial
  ·trivial
 ·trivial
theorem step_upd (f : Value) {o : Oper} {a : Act} {K : Act → World → Prop} {Q : Exit → Act → World → Prop} {id : Nat} {hp' : List (Nat × Blk)} {s : Sem Value} {res : Res}
  (he : execOp a.eval o = (do pure (.value (← s)))) (hf : (∃ obl j b, res = .upd obl j b) ∨ res = .bad) (hr : ∀ obl j b, res = .upd obl j b → obl → ∃ w', s.run P w = .ok (.tuple #[]) w' ∧ Step base okc r N hp w r N (setBlk hp j b) w')
  (hk : resK P base okc r N hp w id hp' a o.dst K res) : o.wp P a w K Q := by
 rcases hf with ⟨obl, j, b, rfl⟩ | rfl
 ·obtain ⟨w', hv, hs⟩ := hr _ _ _ rfl hk.1
  unfold Oper.wp
  rw [he, Sem.run_bind, hv]
  exact hk.2 w' hs
 ·exact hk.elim
theorem step_ok (h : Sat base okc r N hp w) {fr : Nat → SV} {o : Oper} {a : Act} (ha : ∀ x, x ∈ o.op.operands → Rep r N (Gd base okc r N hp w) w (env fr x) (a.eval x)) {K : Act → World → Prop} {Q : Exit → Act → World → Prop} {id : Nat} {hp' : List (Nat × Blk)}
  (hk : resK P base okc r N hp w id hp' a o.dst K (stepR P fr hp o.op)) : o.wp P a w K Q := by
 obtain ⟨dst, op, type, pos, after, guard⟩ := o
 have E := fun x hx => ha x hx
 clear ha
 simp only [] at E
 cases op <;> simp only [stepR] at hk <;> try exact hk.elim
 case move x => exact hk.2 _ (E x (by simp [Op.operands, Call.operands]))
 case assign x => exact hk.2 _ (E x (by simp [Op.operands, Call.operands]))
 case pick c x y =>
  unfold rPick at hk
  split at hk
  ·rename_i b hb
   have hc := E c (by simp [Op.operands, Call.operands])
   rw [hb] at hc
   have he : a.eval c = .bool b := by generalize a.eval c = z at hc; cases hc; rfl
   unfold Oper.wp
   simp only [execOp, he, asBool, Sem.run_bind, Sem.run_pure, Result.andThen_ok]
   exact hk.2 _ (Rep.ite b (E x (by simp [Op.operands, Call.operands])) (E y (by simp [Op.operands, Call.operands])))
  ·exact hk.elim
 case alloc t => exact of_new rfl (run_alloc h t) (by unfold rAlloc; split <;> first | exact .inl ⟨_, _, _, rfl⟩ | exact .inr rfl) hk
 case box t x => exact of_new rfl (run_box h t (E x (by simp [Op.operands, Call.operands]))) (by unfold rBox; split <;> first | exact .inl ⟨_, _, _, rfl⟩ | exact .inr rfl | (split <;> first | exact .inl ⟨_, _, _, rfl⟩ | exact .inr rfl)) hk
 case load t x => exact of_stays rfl (run_load h.ok (E x (by simp [Op.operands, Call.operands]))) (by unfold rLoad; split <;> first | rfl | (split <;> first | rfl | (split <;> rfl))) hk
 case store t x y => exact of_goodU rfl (run_store h t (E x (by simp [Op.operands, Call.operands])) (E y (by simp [Op.operands, Call.operands]))) (rStore_form _ _ _ _) hk
 case nilCheck x =>
  have hx := E x (by simp [Op.operands, Call.operands])
  generalize hs : env fr x = s at hk hx
  unfold Oper.wp
  simp only [execOp]
  generalize a.eval x = u at hx
  cases hx <;> simp only [rNil] at hk <;> try exact hk.elim
  case ptr id off b hN hr => exact hk.2 _ (.ptr _ _ _ hN hr)
  case elt id k i j b hN hr => exact hk.2 _ (.elt _ _ _ _ _ hN hr)
  case ref o n row b off f hG hc hr => exact hk.2 _ (.ref _ _ _ _ _ f hG hc hr)
  case fn f l m cs ds hl hm h1 h2 =>
   cases f <;> simp only [] at hk <;> try exact hk.elim
   exact hk.2 _ (.fn _ _ _ _ _ hl hm h1 h2)
 case binOp op t x y t' =>
  have hx := E x (by simp [Op.operands, Call.operands])
  have hy := E y (by simp [Op.operands, Call.operands])
  cases hres : rBin P op t (env fr x) (env fr y) with
  | pure obl sv =>
   rw [hres] at hk
   obtain ⟨z, hz, hrep⟩ := run_bin hres hk.1 hx hy x y
   unfold Oper.wp
   simp only [execOp]
   rw [Sem.run_bind, hz]
   exact hk.2 z hrep
  | _ =>
   rw [hres] at hk
   revert hres
   unfold rBin
   (repeat' split) <;> first | (intro hres; cases hres; done) | (intro hres; cases hres; exact hk.elim) | (intro hres; rcases rNilS_form P op t _ _ _ with ⟨_, _, e⟩ | e <;> rw [e] at hres <;> cases hres <;> exact hk.elim) | (unfold rEq; (repeat' split) <;> intro hres <;> cases hres <;> exact hk.elim) | (unfold rInt; split <;> intro hres <;> cases hres <;> exact hk.elim)
 case unOp op t x =>
  cases hres : rUn op (env fr x) with
  | pure obl sv =>
   rw [hres] at hk
   obtain ⟨z, hz, hrep⟩ := run_un (P := P) hres hk.1 (E x (by simp [Op.operands, Call.operands]))
   unfold Oper.wp
   simp only [execOp]
   rw [Sem.run_bind, hz]
   exact hk.2 z hrep
  | _ =>
   rw [hres] at hk
   revert hres
   unfold rUn
   split <;> intro hres <;> cases hres <;> exact hk.elim
 case convert s t x =>
  cases hres : rConv (tyOf P s) (tyOf P t) (env fr x) with
  | pure obl sv =>
   rw [hres] at hk
   obtain ⟨z, hz, hrep⟩ := run_conv hres hk.1 (E x (by simp [Op.operands, Call.operands]))
   unfold Oper.wp
   simp only [execOp]
   rw [Sem.run_bind, hz]
   exact hk.2 z hrep
  | _ =>
   rw [hres] at hk
   revert hres
   unfold rConv
   split <;> intro hres <;> cases hres <;> exact hk.elim
 case makeFunc f fs cs =>
  obtain ⟨h1, h2⟩ := rep_envs fs (fun x hx => E x (by simp [Op.operands, hx]))
  obtain ⟨h3, h4⟩ := rep_envs cs (fun x hx => E x (by simp [Op.operands, hx]))
  exact hk.2 _ (.fn _ _ _ _ _ h1 h3 h2 h4)
 case fieldAddr t x i => exact of_stays rfl (run_fieldAddr (E x (by simp [Op.operands, Call.operands]))) (by unfold rFieldAddr; split <;> first | rfl | (split <;> first | rfl | (split <;> rfl))) hk
 case field t x i => exact of_stays rfl (run_field (E x (by simp [Op.operands, Call.operands]))) (by unfold rField; split <;> first | rfl | (split <;> first | rfl | (split <;> first | rfl | (split <;> rfl)))) hk
 case indexAddr t x i => exact of_stays rfl (run_indexAddr (E x (by simp [Op.operands, Call.operands])) (E i (by simp [Op.operands, Call.operands]))) (by unfold rIndexAddr; split <;> first | rfl | (split <;> first | rfl | (split <;> first | rfl | (split <;> rfl)))) hk
 case extract x i => exact of_stays rfl (run_extract (E x (by simp [Op.operands, Call.operands]))) (by unfold rExtract; split <;> rfl) hk
 case build t parts =>
  have e1 : ∀ x, (∃ i, (i, x) ∈ parts) → Rep r N (Gd base okc r N hp w) w (env fr x) (a.eval x) := fun x hx => E x (by simpa [Op.operands] using hx)
  exact step_build e1 rfl hk
 case buildSlice t len parts =>
  have e1 : ∀ x, (∃ i, (i, x) ∈ parts) → Rep r N (Gd base okc r N hp w) w (env fr x) (a.eval x) := fun x hx => E x (by simpa [Op.operands] using hx)
  exact step_buildSlice h e1 rfl hk
 case makeSlice t l c => exact of_new rfl (run_makeS h t (E l (by simp [Op.operands])) (E c (by simp [Op.operands]))) (rMakeSlice_form _ _ _) hk
 case slice t x lo hi mx =>
  have e1 := E x (by simp [Op.operands])
  have e2 := repO_map lo fun y hy => E y (by simp [Op.operands, hy])
  have e3 := repO_map hi fun y hy => E y (by simp [Op.operands, hy])
  have e4 := repO_map mx fun y hy => E y (by simp [Op.operands, hy])
  exact step_slice h e1 e2 e3 e4 rfl hk
 case makeMap t rs =>
  cases rs with
  | none => exact of_new rfl (run_makeMapS h t) (rMakeMap_form _ _) hk
  | some y =>
   exfalso
   simp only [Option.isSome_some] at hk
   unfold rMakeMap at hk
   split at hk <;> exact hk
 case lookup t x k ok => exact of_stays rfl (run_lookup h.ok (E x (by simp [Op.operands])) (E k (by simp [Op.operands])) ok) (rLookup_stays _ _ _ _ _) hk
 case mapUpdate t m k x => exact of_goodU rfl (run_updateS h t (E m (by simp [Op.operands])) (E k (by simp [Op.operands])) (E x (by simp [Op.operands]))) (rUpdate_form _ _ _ _ _) hk
 case insert t m k x => exact of_goodU rfl (run_updateS h t (E m (by simp [Op.operands])) (E k (by simp [Op.operands])) (E x (by simp [Op.operands]))) (rUpdate_form _ _ _ _ _) hk
 case index t x i => exact of_stays rfl (run_indexS (E x (by simp [Op.operands])) (E i (by simp [Op.operands]))) (rIndex_stays _ _ _) hk
 case call c =>
  obtain ⟨callee, args, argTypes⟩ := c
  cases callee with
  | value f =>
   simp only [rCall] at hk
   have hf := E f (by simp [Op.operands, Call.operands])
   split at hk
   ·rename_i g first caps hfe
    rw [hfe] at hf
    unfold Oper.wp
    simp only [execOp, resolve, Sem.run_bind]
    generalize a.eval f = u at hf
    cases hf with
    | fn _ _ _ cs ds hl hm h1 h2 =>
     obtain ⟨hl3, h3⟩ := rep_envs args (fun x hx => E x (by simp [Op.operands, Call.operands, hx]))
     obtain ⟨hl4, h4⟩ := append_get hl3 hm h3 h2
     obtain ⟨hl5, h5⟩ := append_get hl hl4 h1 h4
     simp only [Deferred.ofValue, Sem.run_pure, Result.andThen_ok, invoke]
     rw [Array.append_assoc]
     rcases hk with ⟨pats, res, hc, hs, hk⟩ | ⟨pats, bb, res, hc, hs, hid, hp2, hat, hoth, hk⟩
     ·exact run_call h hl5 h5 hc hs hk
     ·exact run_callN h hl5 h5 hc hs hid hat hoth hk
   ·exact hk.elim
   ·exact hk.elim
  | invoke x m => exact hk.elim
  | builtin b =>
   cases b <;> simp only [rCall] at hk <;> try exact hk.elim
   case append =>
    split at hk
    rotate_left
    ·exact hk.elim
    rename_i s x t t' hargs hts
    have hargs := list2 hargs
    have hts := list2 hts
    subst hargs; subst hts
    split at hk
    rotate_left
    ·exact hk.elim
    rename_i e
    subst e
    exact step_append (u := a.eval s) (v := a.eval x) (ty := type) h (E s (by simp [Op.operands, Call.operands])) (E x (by simp [Op.operands, Call.operands])) (by
     simp only [execOp, resolve, invoke, builtin, List.map_toArray, List.map_cons, List.map_nil]
     rfl) hk
   case copy =>
    split at hk
    rotate_left
    ·exact hk.elim
    rename_i d x t t' hargs hts
    have hargs := list2 hargs
    have hts := list2 hts
    subst hargs; subst hts
    exact step_copy (u := a.eval d) (v := a.eval x) (t' := t') (ty := type) h (E d (by simp [Op.operands, Call.operands])) (E x (by simp [Op.operands, Call.operands])) (by
     simp only [execOp, resolve, invoke, builtin, List.map_toArray, List.map_cons, List.map_nil]
     rfl) hk
   case delete =>
    split at hk
    rotate_left
    ·exact hk.elim
    rename_i m k t t' hargs hts
    have hargs := list2 hargs
    have hts := list2 hts
    subst hargs; subst hts
    refine step_upd (s := Builtin.delete_ #[t, t'] type #[a.eval m, a.eval k]) undef (by
     simp only [execOp, resolve, invoke, builtin, List.map_toArray, List.map_cons, List.map_nil]
     rfl) (rDelete_form _ _ _ _) (fun obl j b hres ho => run_deleteS h t t' type (E m (by simp [Op.operands, Call.operands])) (E k (by simp [Op.operands, Call.operands])) hres ho) hk
   case clear =>
    split at hk
    rotate_left
    ·exact hk.elim
    rename_i d t hargs hts
    have hargs := list1 hargs
    have hts := list1 hts
    subst hargs; subst hts
    have hd := E d (by simp [Op.operands, Call.operands])
    split at hk
    ·rename_i mid hmid
     rw [hmid] at hd
     refine step_upd (s := Builtin.clear_ #[t] type #[a.eval d]) undef (by
      simp only [execOp, resolve, invoke, builtin, List.map_toArray, List.map_cons, List.map_nil]
      rfl) (rClearMap_form _ _ _) (fun obl j b hres ho => run_clearMapS h t type hd hres ho) hk
    ·exact step_clear (u := a.eval d) (ty := type) h hd (by
      simp only [execOp, resolve, invoke, builtin, List.map_toArray, List.map_cons, List.map_nil]
      rfl) hk
   case len =>
    split at hk
    ·rename_i x t hx ht
     have hx := list1 hx
     have ht := list1 ht
     subst hx; subst ht
     cases hres : rLen (tyOf P t) (env fr x) with
     | pure obl sv =>
      rw [hres] at hk
      obtain ⟨z, hz, hrep⟩ := run_len (ty := type) (E x (by simp [Op.operands, Call.operands])) hres
      unfold Oper.wp
      simp only [execOp, resolve, Sem.run_bind, Sem.run_pure, Result.andThen_ok, invoke, builtin, List.map_toArray, List.map_cons, List.map_nil, hz]
      exact hk.2 z hrep
     | _ =>
      rw [hres] at hk
      revert hres
      unfold rLen
      (repeat' split) <;> intro hres <;> cases hres <;> exact hk.elim
    ·exact hk.elim
   case max =>
    cases hres : rMin true (envs fr args.toList) with
    | pure obl sv =>
     rw [hres] at hk
     obtain ⟨z, hz, hrep⟩ := run_minmax true (fun x hx => E x (by simp [Op.operands, Call.operands, hx])) (ts := argTypes) (t := type) hres
     rw [if_pos rfl] at hz
     unfold Oper.wp
     simp only [execOp, resolve, Sem.run_bind, Sem.run_pure, Result.andThen_ok, invoke, builtin]
     rw [hz]
     exact hk.2 z hrep
    | _ =>
     rw [hres] at hk
     revert hres
     unfold rMin
     (repeat' split) <;> intro hres <;> cases hres <;> exact hk.elim
   case min =>
    cases hres : rMin false (envs fr args.toList) with
    | pure obl sv =>
     rw [hres] at hk
     obtain ⟨z, hz, hrep⟩ := run_minmax false (fun x hx => E x (by simp [Op.operands, Call.operands, hx])) (ts := argTypes) (t := type) hres
     rw [if_neg (by simp)] at hz
     unfold Oper.wp
     simp only [execOp, resolve, Sem.run_bind, Sem.run_pure, Result.andThen_ok, invoke, builtin]
     rw [hz]
     exact hk.2 z hrep
    | _ =>
     rw [hres] at hk
     revert hres
     unfold rMin
     (repeat' split) <;> intro hres <;> cases hres <;> exact hk.elim
end
end Go.Sx
end
section
set_option linter.unusedVariables false
set_option linter.unusedSimpArgs false
namespace Go.Sx
open Go.RowKit
def undefSV : SV := .val (.tuple #[])
def SplitVC (g : Bool) (A B : Prop) : Prop := (g = true → A) ∧ (g = false → B)
theorem SplitVC.congr {g g' : Bool} {A B : Prop} (h : g = g') : SplitVC g A B = SplitVC g' A B := by rw [h]
theorem split_true (A B : Prop) : SplitVC true A B = A := by simp [SplitVC]
theorem split_false (A B : Prop) : SplitVC false A B = B := by simp [SplitVC]
theorem split_not (g : Bool) (A B : Prop) : SplitVC (!g) A B = SplitVC g B A := by cases g <;> simp [SplitVC]
def CallVC (P : Program) (hp : List (Nat × Blk)) (f : FuncId) (args : List SV) (K : SV → Prop) : Prop :=
 ∃ pats res, Contract P f pats res ∧ ((SubL hp pats args ∧ Fresh res) ∨ SubL [] pats args) ∧ K res
theorem CallVC.congr {P : Program} {hp hp' : List (Nat × Blk)} {f : FuncId} {args args' : List SV} {K : SV → Prop} (h : hp = hp') (h' : args = args') : CallVC P hp f args K = CallVC P hp' f args' K := by rw [h, h']
def CallNVC (P : Program) (hp : List (Nat × Blk)) (f : FuncId) (args : List SV) (K : Blk → SV → Prop) : Prop :=
 ∃ pats b res, ContractN P f pats b res ∧ NewOk hp pats args b res ∧ K b res
structure Fr : Type where
 fr : List (Nat × SV)
 rcd : Option Loop
 ns : Nat
 lo : Nat
structure Ctx : Type where
 fs : List Fr
 lo : Nat
 rnd : Bool
 far : Nat → List (Nat × Nat)
def noFar : Nat → List (Nat × Nat) := fun _ => []
def farAt (n : Nat) (l : List (Nat × Nat)) : Nat → List (Nat × Nat) := fun i => if i = n then l else []
def isHand : List (Nat × Nat) → Bool
 | (a, b) :: _ => decide (a = b)
 | [] => false
def handAt (n : Nat) : Nat → List (Nat × Nat) := farAt n [(0, 0)]
def addrBlk : SV → Option Nat
 | .ptr id _ => some id
 | .elt id _ _ _ => some id
 | _ => none
def Apart (s s' : SV) : Prop := match addrBlk s, addrBlk s' with
 | some i, some j => i ≠ j
 | _, _ => True
def FarVC : List (Nat × Nat) → St → Prop → Prop
 | [], _, X => X
 | (a, b) :: l, st, X => Apart (look st.fr a) (look st.fr b) ∧ FarVC l st X
theorem farVC_spec : ∀ {l : List (Nat × Nat)} {st : St} {X : Prop}, FarVC l st X → X ∧ ∀ a b, (a, b) ∈ l → Apart (look st.fr a) (look st.fr b)
 | [], st, X, h => ⟨h, fun a b hab => by cases hab⟩
 | (c, d) :: l, st, X, h => by
  obtain ⟨h1, h2⟩ := farVC_spec h.2
  refine ⟨h1, fun a b hab => ?_⟩
  rcases List.mem_cons.1 hab with e | e
  ·cases e; exact h.1
  ·exact h2 a b e
theorem FarVC.mono : ∀ {l : List (Nat × Nat)} {st : St} {X Y : Prop}, (X → Y) → FarVC l st X → FarVC l st Y
 | [], st, X, Y, hh, h => hh h
 | (c, d) :: l, st, X, Y, hh, h => ⟨h.1, FarVC.mono hh h.2⟩
def OutOk (r : Nat → Option Nat) (lo : Nat) (G : Bool → Nat → Prop) (w : World) : List Fr → List Act → Prop
 | [], [] => True
 | f :: fs, a :: as => (∀ i, Rep r (· < f.lo) G w (look f.fr i) (a.tmps.getD i undef)) ∧ f.lo ≤ lo ∧ a.tmps.size = f.ns ∧ (∀ L, f.rcd = some L → L.tmps = a.tmps) ∧ OutOk r lo G w fs as
 | _, _ => False
theorem OutOk.mono {r r' : Nat → Option Nat} {lo lo' : Nat} {G G' : Bool → Nat → Prop} {w w' : World} (hlo : lo ≤ lo') (h : ∀ n, n ≤ lo → ∀ sv v, Rep r (· < n) G w sv v → Rep r' (· < n) G' w' sv v) : ∀ {fs : List Fr} {as : List Act}, OutOk r lo G w fs as → OutOk r' lo' G' w' fs as
 | [], [], _ => trivial
 | f :: fs, a :: as, ⟨h1, h2, h3, h4, h5⟩ => ⟨fun i => h _ h2 _ _ (h1 i), Nat.le_trans h2 hlo, h3, h4, OutOk.mono hlo h h5⟩
structure Outs : Type where
 as : List Act
 r0 : Nat → Option Nat
def cDef (D : Nat) : Deferred := { target := .collected D, args := #[] }
def allD (a : Act) (outs : List Act) : List Deferred := a.defers ++ (outs.map (·.defers)).flatten
structure InvR (O : Ctx) (base : World) (okc : Nat → Prop) (ns k : Nat) (r : Nat → Option Nat) (outs : Outs) (st : St) (a : Act) (w : World) : Prop where
 sat : Sat base okc r (· < k) st.hp w
 keys : ∀ id x, blk st.hp id = some x → id < k
 fr : ∀ i, Rep r (· < k) (Gd base okc r (· < k) st.hp w) w (look st.fr i) (a.tmps.getD i undef)
 size : a.tmps.size = ns
 lo : O.lo ≤ k
 out : OutOk r O.lo (Gd base okc r (· < k) st.hp w) w O.fs outs.as
 rfix : ∀ id, id < O.lo → r id = outs.r0 id
 defers : ∃ Ds : List Nat, allD a outs.as = Ds.map cDef ∧ Ds.Nodup ∧ ∀ D ∈ Ds, Gd base okc r (· < k) st.hp w true D ∧ w.heap[D]? = some (.deferred (some []))
def Inv (O : Ctx) (base : World) (okc : Nat → Prop) (ns k : Nat) (outs : Outs) (st : St) (a : Act) (w : World) : Prop := ∃ r, InvR O base okc ns k r outs st a w
def InlineVC (P : Program) (O : Ctx) (f : FuncId) (args : List SV) (st : St) (K : St → SV → Prop) : Prop :=
 ∀ (base : World) (okc : Nat → Prop) (ns : Nat) (r : Nat → Option Nat) (outs : Outs) (a : Act) (w : World) (vs : Array Value), InvR O base okc ns st.nid r outs st a w → args.length = vs.size →
  (∀ i sv, args[i]? = some sv → Rep r (· < st.nid) (Gd base okc r (· < st.nid) st.hp w) w sv (vs.getD i undef)) →
  (callFunc f vs).run P w = .ok (.enter f vs) w ∧
  Calls P f vs w fun e w' => ∃ v st' r' res, e = .returned v ∧ K st' res ∧ st.nid ≤ st'.nid ∧ InvR O base okc ns st'.nid r' outs st' a w' ∧ Rep r' (· < st'.nid) (Gd base okc r' (· < st'.nid) st'.hp w') w' res v
def YieldVC (P : Program) (O : Ctx) (id : Nat) (args : List SV) (st : St) (K : St → SV → Prop) : Prop :=
 ∀ (base : World) (okc : Nat → Prop) (ns : Nat) (r : Nat → Option Nat) (outs : Outs) (a : Act) (w : World) (vs : Array Value) (l : Nat), InvR O base okc ns st.nid r outs st a w → args.length = vs.size →
  (∀ i sv, args[i]? = some sv → Rep r (· < st.nid) (Gd base okc r (· < st.nid) st.hp w) w sv (vs.getD i undef)) → id < st.nid → r id = some l →
  ∃ fn tmps assign body, (Instr.yield l vs).run P w = .ok (.round l fn tmps assign body) w ∧
  RoundIn Fence.wide 0 P l fn tmps assign body w fun e w' => ∃ v st' r' res, e = .returned v ∧ K st' res ∧ st.nid ≤ st'.nid ∧ InvR O base okc ns st'.nid r' outs st' a w' ∧ Rep r' (· < st'.nid) (Gd base okc r' (· < st'.nid) st'.hp w') w' res v
def OpVC (P : Program) (O : Ctx) (op : Op) (st : St) (K : St → SV → Prop) : Prop :=
 ∀ (base : World) (okc : Nat → Prop) (ns : Nat) (r : Nat → Option Nat) (outs : Outs) (a : Act) (w : World) (o : Oper), o.op = op → InvR O base okc ns st.nid r outs st a w →
  ∃ v w', (execOp a.eval o).run P w = .ok (.value v) w' ∧ ∃ st' r' res, K st' res ∧ st.nid ≤ st'.nid ∧ InvR O base okc ns st'.nid r' outs st' a w' ∧ Rep r' (· < st'.nid) (Gd base okc r' (· < st'.nid) st'.hp w') w' res v
def resVC (P : Program) (O : Ctx) (J : Prop) (op : Op) (d : Option Tmp) (id : Nat) (st : St) (K : St → Prop) : Res → Prop
 | .bad => False
 | .pure obl r => obl ∧ K (st.put d r)
 | .ex obl => ∃ r, obl r ∧ K (st.put d r)
 | .new obl b mk => obl ∧ K (({ st with hp := (id, b) :: st.hp }).put d (mk id))
 | .upd obl j b => obl ∧ K (({ st with hp := setBlk st.hp j b }).put d undefSV)
 | .updv obl j b sv => obl ∧ K (({ st with hp := setBlk st.hp j b }).put d sv)
 | .grow obl old b mk => (obl ∧ old ≠ id) ∧ K (({ st with hp := (id, b) :: dropBlk st.hp old }).put d (mk id))
 | .call f args => CallVC P st.hp f args (fun r => K (st.put d r)) ∨ CallNVC P st.hp f args (fun b res => K (({ st with hp := (id, b) :: st.hp }).put d (setId id res))) ∨ (J ∧ InlineVC P O f args ⟨st.fr, st.hp, id⟩ fun st' res => K (st'.put d res))
 | .yield y args => J ∧ YieldVC P O y args ⟨st.fr, st.hp, id⟩ fun st' res => K (st'.put d res)
 | .raw => J ∧ OpVC P O op ⟨st.fr, st.hp, id⟩ fun st' res => K (st'.put d res)
def nth : List (Option Tmp) → Nat → Option Tmp
 | [], _ => none
 | d :: _, 0 => d
 | _ :: l, n + 1 => nth l n
def guardVC (ds : List (Option Tmp)) (g : Option (Nat × Bool)) (st : St) (run skip : St → Prop) : Prop :=
 match g with
 | none => run st
 | some (j, want) => match nth ds j with
  | none => False
  | some t => match look st.fr t with
   | .val (.bool b) => match want with
    | true => SplitVC b (run (st.put (some t) (.val (.bool true)))) (skip (st.put (some t) (.val (.bool false))))
    | false => SplitVC b (skip (st.put (some t) (.val (.bool true)))) (run (st.put (some t) (.val (.bool false))))
   | .val (.tuple _) => skip st
   | _ => False
def opsVC (P : Program) (O : Ctx) (J : Prop) (ds : List (Option Tmp)) : List Oper → Nat → St → (St → Prop) → Prop
 | [], _, st, K => K st
 | o :: rest, i, st, K => guardVC ds o.guard st
   (fun st => resVC P O J o.op o.dst (st.nid + i) st (fun st => opsVC P O J ds rest (i + 1) st K) (stepR P (look st.fr) st.hp o.op))
   (fun st => opsVC P O J ds rest (i + 1) (st.put o.dst undefSV) K)
def dsts : List Oper → List (Option Tmp)
 | [] => []
 | o :: l => o.dst :: dsts l
theorem dsts_get (l : List Oper) (j : Nat) : nth (dsts l) j = (l[j]?).bind (·.dst) := by
 induction l generalizing j with
 | nil => simp [dsts, nth]
 | cons o l ih => cases j <;> simp [dsts, nth, ih]
theorem look_put (fr : List (Nat × SV)) (d t : Nat) (v : SV) : look (putFr fr d v) t = if t = d then v else look fr t := rfl
theorem look_putIn (fr : List (Nat × SV)) (d t : Nat) (v : SV) : look (putIn fr d v) t = if t = d then v else look fr t := by
 induction fr with
 | nil => simp [putIn, look]
 | cons p fr ih =>
  obtain ⟨i, u⟩ := p
  simp only [putIn]
  by_cases e : d = i
  ·subst e
   rw [if_pos rfl]
   simp only [look]
   by_cases e' : t = d <;> simp [e']
  ·rw [if_neg e]
   simp only [look, ih]
   by_cases e' : t = i
   ·subst e'; rw [if_pos rfl, if_neg (Ne.symm e), if_pos rfl]
   ·simp [e']
theorem look_inD (d : Option Tmp) (fr : List (Nat × SV)) (t : Nat) : look (inD d fr) t = look fr t := by
 cases d with
 | none => rfl
 | some d =>
  cases fr with
  | nil => rfl
  | cons p fr => obtain ⟨i, u⟩ := p; exact look_putIn fr i t u
def dstIn (ns : Nat) (o : Oper) : Bool := match o.dst with | some d => decide (d < ns) | none => true
section
variable {P : Program} {O : Ctx} {J : Prop} {base : World} {okc : Nat → Prop} {ns k : Nat} {r : Nat → Option Nat} {outs : Outs} {st : St} {a : Act} {w : World}
theorem plus_lt (k : Nat) : plus (· < k) k = (· < k + 1) := by funext i; simp only [plus, eq_iff_iff]; omega
theorem Sat.more {N N' : Nat → Prop} {hp : List (Nat × Blk)} (h : Sat base okc r N hp w) (hN : ∀ i, N i → N' i) (hno : ∀ i x, blk hp i = some x → N' i → N i) : Step base okc r N hp w r N' hp w := by
 have hG : ∀ o c, Gd base okc r N hp w o c → Gd base okc r N' hp w o c ∧ w.heap[c]? = w.heap[c]? := fun o c ⟨h1, h2, h3⟩ => ⟨⟨h1, fun i y hy hi => h2 i y hy (hno i y hy hi), h3⟩, rfl⟩
 exact ⟨⟨h.below, fun i y hy hi => (h.rep i y hy (hno i y hy hi)).mono (fun _ _ => rfl) hN hG (Shapes.refl w) (fun _ _ => rfl), fun i y b hy hi => h.own i y b hy (hno i y hy hi),
  fun i y i' y' b hy hi hy' hi' => h.inj i y i' y' b hy (hno i y hy hi) hy' (hno i' y' hy' hi')⟩, fun _ _ => rfl, hN, hG, Shapes.refl w⟩
theorem put_getD (a : Act) (d : Option Tmp) (v : Value) (t : Nat) : (a.put d v).tmps.getD t undef = if d = some t ∧ t < a.tmps.size then v else a.tmps.getD t undef := by
 cases d with
 | none => simp [Act.put]
 | some d =>
  simp only [Act.put, Array.getD_eq_getD_getElem?, Array.getElem?_setIfInBounds, Option.some.injEq]
  by_cases e : d = t
  ·subst e
   by_cases h : d < a.tmps.size <;> simp [h]
  ·simp [e]
theorem put_defers (a : Act) (d : Option Tmp) (v : Value) : (a.put d v).defers = a.defers := by cases d <;> rfl
theorem put_size (a : Act) (d : Option Tmp) (v : Value) : (a.put d v).tmps.size = a.tmps.size := by cases d <;> simp [Act.put]
theorem InvR.step {k' : Nat} {r' : Nat → Option Nat} {hp' : List (Nat × Blk)} {w' : World} (h : InvR O base okc ns k r outs st a w) (hs : Step base okc r (· < k) st.hp w r' (· < k') hp' w') (hk : ∀ id x, blk hp' id = some x → id < k') (hkk : k ≤ k') {d : Option Tmp} (hd : ∀ t, d = some t → t < ns)
  {sv : SV} {v : Value} (hv : Rep r' (· < k') (Gd base okc r' (· < k') hp' w') w' sv v) : InvR O base okc ns k' r' outs (({ st with hp := hp' } : St).put d sv) (a.put d v) w' := by
 have hhp : (({ st with hp := hp' } : St).put d sv).hp = hp' := by cases d <;> rfl
 refine ⟨by rw [hhp]; exact hs.sat, by rw [hhp]; exact hk, fun i => ?_, by rw [put_size]; exact h.size, Nat.le_trans h.lo hkk, ?_, fun id hid => (hs.rr id (Nat.lt_of_lt_of_le hid h.lo)).trans (h.rfix id hid), ?_⟩
 ·rw [put_getD, hhp]
  cases d with
  | none =>
   simp only [St.put, reduceCtorEq, false_and, if_false]
   exact hs.rep (h.fr i)
  | some d =>
   simp only [St.put, look_put, Option.some.injEq]
   by_cases e : i = d
   ·subst e
    rw [if_pos rfl, if_pos ⟨rfl, by rw [h.size]; exact hd _ rfl⟩]
    exact hv
   ·rw [if_neg e, if_neg (by rintro ⟨e', _⟩; exact e e'.symm)]
    exact hs.rep (h.fr i)
 ·rw [hhp]
  exact h.out.mono (Nat.le_refl _) fun n hn sv v hv => hv.mono (fun id hid => hs.rr id (Nat.lt_of_lt_of_le hid (Nat.le_trans hn h.lo))) (fun _ h => h) hs.gg hs.sh
 ·obtain ⟨Ds, h1, h2, h3⟩ := h.defers
  refine ⟨Ds, by unfold allD; rw [put_defers]; exact h1, h2, fun D hD => ?_⟩
  rw [hhp]
  obtain ⟨h4, h5⟩ := h3 D hD
  obtain ⟨h6, h7⟩ := hs.gg _ _ h4
  exact ⟨h6, h7.trans h5⟩
theorem InvR.more (h : InvR O base okc ns k r outs st a w) {k' : Nat} (hk : k ≤ k') : InvR O base okc ns k' r outs st a w := by
 have hs : Step base okc r (· < k) st.hp w r (· < k') st.hp w := h.sat.more (fun i hi => Nat.lt_of_lt_of_le hi hk) (fun i x hx _ => h.keys i x hx)
 refine ⟨hs.sat, fun id x hx => Nat.lt_of_lt_of_le (h.keys id x hx) hk, fun i => hs.rep (h.fr i), h.size, Nat.le_trans h.lo hk, h.out.mono (Nat.le_refl _) fun n hn sv v hv => hv.mono (fun _ _ => rfl) (fun _ h => h) hs.gg hs.sh, h.rfix, ?_⟩
 obtain ⟨Ds, h1, h2, h3⟩ := h.defers
 exact ⟨Ds, h1, h2, fun D hD => ⟨(hs.gg _ _ (h3 D hD).1).1, (h3 D hD).2⟩⟩
theorem InvR.nid (h : InvR O base okc ns k r outs st a w) (n : Nat) : InvR O base okc ns k r outs { st with nid := n } a w := ⟨h.sat, h.keys, h.fr, h.size, h.lo, h.out, h.rfix, h.defers⟩
theorem InvR.keep (h : InvR O base okc ns k r outs st a w) {t : Nat} {b : Bool} (hb : look st.fr t = .val (.bool b)) : InvR O base okc ns k r outs (st.put (some t) (.val (.bool b))) a w := by
 refine ⟨h.sat, h.keys, fun i => ?_, h.size, h.lo, h.out, h.rfix, h.defers⟩
 simp only [St.put, look_put]
 split
 ·rename_i e; subst e; rw [← hb]; exact h.fr i
 ·exact h.fr i
theorem InvR.env (h : InvR O base okc ns k r outs st a w) (x : Operand) : Rep r (· < k) (Gd base okc r (· < k) st.hp w) w (env (look st.fr) x) (a.eval x) := rep_env x fun i _ => h.fr i
theorem put_hp (st : St) (d : Option Tmp) (v : SV) : (st.put d v).hp = st.hp := by cases d <;> rfl
theorem put_nid (st : St) (d : Option Tmp) (v : SV) : (st.put d v).nid = st.nid := by cases d <;> rfl
def FR (ro : Option Nat) : Fence := { fn := fun _ => True, depth := none, alive := false, round := ro }
theorem calls_FR {ro : Option Nat} {f : FuncId} {vs : Array Value} {R : Ending → World → Prop} : CallsIn (FR ro) 0 P f vs w R ↔ Calls P f vs w R := (Iff.rfl : CallsIn (FR ro) 0 P f vs w R ↔ CallsIn Fence.wide 0 P f vs w R).trans callsIn_wide
theorem wpIn_of_wp {ro : Option Nat} {o : Oper} {K : Act → World → Prop} {Q : Exit → Act → World → Prop} (hd : ∀ c, o.op ≠ .defer c) (h : o.wp P a w K Q) : o.wpIn (FR ro) 0 P a w K Q := by
 refine ⟨fun _ _ => trivial, ?_⟩
 rw [Oper.semAt_eq _ _ _ hd]
 unfold Oper.wp at h
 generalize (execOp a.eval o).run P w = res at h
 cases res with
 | ok x w' =>
  cases x <;> simp only [Oper.upon, Oper.uponIn] at h ⊢ <;> first | exact h | skip
  ·exact ⟨fun hh => by simp [FR] at hh, calls_FR.2 h⟩
  ·exact ⟨fun hh => by simp [FR] at hh, fun c cs _ => let ⟨v, w'', h1, h2⟩ := h c cs; ⟨v, w'', h1, (stepsIn_wide (P := P)).2 h2⟩⟩
 | halt x w' => cases x <;> simp only [Oper.upon, Oper.uponIn] at h ⊢ <;> exact h
theorem not_defer {fr : Nat → SV} {hp : List (Nat × Blk)} {op : Op} (h : stepR P fr hp op ≠ .bad) : ∀ c, op ≠ .defer c := fun c e => by subst e; exact h rfl
def noCtl : Res → Bool
 | .call _ _ => false
 | .yield _ _ => false
 | .raw => false
 | _ => true
theorem noCtl_stays {x : Res} (h : stays x = true) : noCtl x = true := by cases x <;> first | rfl | cases h
theorem noCtl_new {x : Res} (h : (∃ obl b mk, x = .new obl b mk) ∨ x = .bad) : noCtl x = true := by rcases h with ⟨_, _, _, rfl⟩ | rfl <;> rfl
theorem noCtl_upd {x : Res} (h : (∃ obl j b, x = .upd obl j b) ∨ x = .bad) : noCtl x = true := by rcases h with ⟨_, _, _, rfl⟩ | rfl <;> rfl
theorem stepR_ctl (F : Nat → SV) (hp : List (Nat × Blk)) (op : Op) : noCtl (stepR P F hp op) = true ∨ (∃ x xs ts, op = .call ⟨.value x, xs, ts⟩) ∨ (∃ t x, op = .range t x) ∨ (∃ x s, op = .next x s) ∨ (∃ x, op = .entry x) := by
 cases op <;> try exact .inl rfl
 case pick => left; simp only [stepR]; unfold rPick; split <;> rfl
 case alloc => left; simp only [stepR]; unfold rAlloc; split <;> rfl
 case box => left; simp only [stepR]; unfold rBox; (repeat' split) <;> rfl
 case load => left; simp only [stepR]; unfold rLoad; (repeat' split) <;> rfl
 case store => left; exact noCtl_upd (rStore_form _ _ _ _)
 case nilCheck => left; simp only [stepR]; unfold rNil; split <;> rfl
 case binOp => left; simp only [stepR]; unfold rBin; (repeat' split) <;> first | rfl | (rcases rNilS_form P _ _ _ _ _ with ⟨_, _, e⟩ | e <;> rw [e] <;> rfl) | (unfold rInt; split <;> rfl) | (unfold rEq; (repeat' split) <;> rfl)
 case unOp => left; simp only [stepR]; unfold rUn; split <;> rfl
 case convert => left; simp only [stepR]; unfold rConv; split <;> rfl
 case fieldAddr => left; simp only [stepR]; unfold rFieldAddr; (repeat' split) <;> rfl
 case field => left; simp only [stepR]; unfold rField; (repeat' split) <;> rfl
 case indexAddr => left; simp only [stepR]; unfold rIndexAddr; (repeat' split) <;> rfl
 case extract => left; simp only [stepR]; unfold rExtract; split <;> rfl
 case build => left; exact noCtl_stays (rBuild_stays _ _)
 case buildSlice => left; exact noCtl_new (rBuildSlice_form _ _ _)
 case makeSlice => left; exact noCtl_new (rMakeSlice_form _ _ _)
 case slice => left; exact noCtl_stays (rSlice_stays _ _ _ _ _)
 case makeMap => left; exact noCtl_new (rMakeMap_form _ _)
 case lookup => left; exact noCtl_stays (rLookup_stays _ _ _ _ _)
 case mapUpdate => left; exact noCtl_upd (rUpdate_form _ _ _ _ _)
 case insert => left; exact noCtl_upd (rUpdate_form _ _ _ _ _)
 case index => left; exact noCtl_stays (rIndex_stays _ _ _)
 case range t x => exact .inr (.inr (.inl ⟨t, x, rfl⟩))
 case next x s => exact .inr (.inr (.inr (.inl ⟨x, s, rfl⟩)))
 case entry x => exact .inr (.inr (.inr (.inr ⟨x, rfl⟩)))
 case call c =>
  obtain ⟨callee, args, ts⟩ := c
  cases callee with
  | value f => exact .inr (.inl ⟨f, args, ts, rfl⟩)
  | invoke _ _ => exact .inl rfl
  | builtin b =>
   left
   cases b <;> first | rfl | skip
   case append => simp only [stepR, rCall]; (repeat' split) <;> first | rfl | (rcases rAppend_form (P := P) (hp := hp) _ _ _ with ⟨_, _, _, e⟩ | ⟨_, _, _, _, e⟩ | e <;> rw [e] <;> rfl)
   case copy => simp only [stepR, rCall]; split <;> first | rfl | (rcases rCopy_form (P := P) (hp := hp) _ _ _ with ⟨_, _, _, _, e⟩ | e <;> rw [e] <;> rfl)
   case clear => simp only [stepR, rCall]; (repeat' split) <;> first | rfl | exact noCtl_upd (rClearMap_form _ _ _) | exact noCtl_upd (rClear_form _ _)
   case delete => simp only [stepR, rCall]; split <;> first | rfl | exact noCtl_upd (rDelete_form _ _ _ _)
   case len => simp only [stepR, rCall]; split <;> first | rfl | (unfold rLen; (repeat' split) <;> rfl)
   case max => simp only [stepR, rCall]; unfold rMin; (repeat' split) <;> rfl
   case min => simp only [stepR, rCall]; unfold rMin; (repeat' split) <;> rfl
theorem stepR_call {F : Nat → SV} {hp : List (Nat × Blk)} {op : Op} {f : FuncId} {args : List SV} (h : stepR P F hp op = .call f args) :
  ∃ x xs ts first caps, op = .call ⟨.value x, xs, ts⟩ ∧ env F x = .fn (.func f) first caps ∧ args = first ++ (envs F xs.toList ++ caps) := by
 rcases stepR_ctl (P := P) F hp op with h' | ⟨x, xs, ts, rfl⟩ | ⟨t, x, rfl⟩ | ⟨x, s, rfl⟩ | ⟨x, rfl⟩
 ·rw [h] at h'; cases h'
 ·simp only [stepR, rCall] at h
  split at h
  ·rename_i g first caps hx
   simp only [Res.call.injEq] at h
   obtain ⟨rfl, rfl⟩ := h
   exact ⟨x, xs, ts, first, caps, rfl, hx, rfl⟩
  ·cases h
  ·cases h
 ·cases h
 ·cases h
 ·cases h
theorem stepR_yield {F : Nat → SV} {hp : List (Nat × Blk)} {op : Op} {y : Nat} {args : List SV} (h : stepR P F hp op = .yield y args) :
  ∃ x xs ts, op = .call ⟨.value x, xs, ts⟩ ∧ env F x = .yld y ∧ args = envs F xs.toList := by
 rcases stepR_ctl (P := P) F hp op with h' | ⟨x, xs, ts, rfl⟩ | ⟨t, x, rfl⟩ | ⟨x, s, rfl⟩ | ⟨x, rfl⟩
 ·rw [h] at h'; cases h'
 ·simp only [stepR, rCall] at h
  split at h
  ·cases h
  ·rename_i g hx
   simp only [Res.yield.injEq] at h
   obtain ⟨rfl, rfl⟩ := h
   exact ⟨x, xs, ts, rfl, hx, rfl⟩
  ·cases h
 ·cases h
 ·cases h
 ·cases h
theorem res_ok {ro : Option Nat} {o : Oper} {i : Nat} {K : St → Prop} {K' : Act → World → Prop} {Q : Exit → Act → World → Prop} (h : InvR O base okc ns (st.nid + i) r outs st a w) (hd : dstIn ns o = true)
  (hk : resVC P O J o.op o.dst (st.nid + i) st K (stepR P (look st.fr) st.hp o.op))
  (hK : ∀ st' a' w', K st' → st.nid ≤ st'.nid → (¬ J → st'.nid = st.nid) → Inv O base okc ns (st'.nid + (i + 1)) outs st' a' w' → K' a' w') : o.wpIn (FR ro) 0 P a w K' Q := by
 have hd' : ∀ t, o.dst = some t → t < ns := fun t ht => by simpa [dstIn, ht] using hd
 have hk1 : st.nid + i ≤ st.nid + (i + 1) := by omega
 have hnb : stepR P (look st.fr) st.hp o.op ≠ .bad := fun e => by rw [e] at hk; exact hk
 have hdef := not_defer hnb
 have base1 : resK P base okc r (· < st.nid + i) st.hp w (st.nid + i) (match stepR P (look st.fr) st.hp o.op with | .new _ b _ => (st.nid + i, b) :: st.hp | _ => st.hp) a o.dst K' (stepR P (look st.fr) st.hp o.op) → o.wpIn (FR ro) 0 P a w K' Q := fun hres =>
  wpIn_of_wp hdef (step_ok h.sat (fr := look st.fr) (id := st.nid + i) (hp' := match stepR P (look st.fr) st.hp o.op with | .new _ b _ => (st.nid + i, b) :: st.hp | _ => st.hp) (fun x _ => h.env x) hres)
 have hin : InvR O base okc ns (st.nid + i) r outs ⟨st.fr, st.hp, st.nid + i⟩ a w := h.nid _
 have after : ∀ (v : Value) (st' : St) (r' : Nat → Option Nat) (res : SV) (w' : World), J → K (st'.put o.dst res) → st.nid + i ≤ st'.nid → InvR O base okc ns st'.nid r' outs st' a w' → Rep r' (· < st'.nid) (Gd base okc r' (· < st'.nid) st'.hp w') w' res v → K' (a.put o.dst v) w' := fun v st' r' res w' hJ h1 h2 h3 h4 =>
  hK _ _ _ h1 (by rw [put_nid]; omega) (fun hj => absurd hJ hj) ⟨r', by
   rw [put_nid]
   exact (h3.step (Step.refl h3.sat) h3.keys (Nat.le_refl _) hd' h4).more (by omega)⟩
 generalize hres : stepR P (look st.fr) st.hp o.op = res at hk base1
 cases res <;> dsimp only at base1
 case bad => exact hk.elim
 case pure obl sv => exact base1 ⟨hk.1, fun v hv => hK _ _ _ hk.2 (by rw [put_nid]; exact Nat.le_refl _) (fun _ => by rw [put_nid]) ⟨r, by rw [put_nid]; exact (h.step (Step.refl h.sat) h.keys (Nat.le_refl _) hd' hv).more hk1⟩⟩
 case ex obl =>
  obtain ⟨sv, ho, hk⟩ := hk
  exact base1 ⟨sv, ho, fun v hv => hK _ _ _ hk (by rw [put_nid]; exact Nat.le_refl _) (fun _ => by rw [put_nid]) ⟨r, by rw [put_nid]; exact (h.step (Step.refl h.sat) h.keys (Nat.le_refl _) hd' hv).more hk1⟩⟩
 case new obl b mk =>
  refine base1 ⟨hk.1, by omega, by simp [blk], fun j hj => ?_, fun v w' r' hs hv => ?_⟩
  ·simp only [blk]; rw [if_neg (by omega)]
  ·rw [plus_lt] at hs hv
   refine hK _ _ _ hk.2 (by rw [put_nid]; exact Nat.le_refl _) (fun _ => by rw [put_nid]) ⟨r', ?_⟩
   rw [put_nid]
   refine h.step hs (fun id x hx => ?_) (by omega) hd' hv
   simp only [blk] at hx
   split at hx
   ·omega
   ·have := h.keys id x hx; omega
 case upd obl j b =>
  refine base1 ⟨hk.1, fun w' hs => hK _ _ _ hk.2 (by rw [put_nid]; exact Nat.le_refl _) (fun _ => by rw [put_nid]) ⟨r, ?_⟩⟩
  rw [put_nid]
  refine (h.step hs (fun id x hx => ?_) (Nat.le_refl _) hd' (.val _)).more hk1
  rw [blk_setBlk] at hx
  split at hx
  ·rename_i e; subst e
   cases hb : blk st.hp id with
   | none => simp [hb] at hx
   | some y => exact h.keys id y hb
  ·exact h.keys id x hx
 case updv obl j b sv =>
  refine base1 ⟨hk.1, fun v w' hs hv => hK _ _ _ hk.2 (by rw [put_nid]; exact Nat.le_refl _) (fun _ => by rw [put_nid]) ⟨r, ?_⟩⟩
  rw [put_nid]
  refine (h.step hs (fun id x hx => ?_) (Nat.le_refl _) hd' hv).more hk1
  rw [blk_setBlk] at hx
  split at hx
  ·rename_i e; subst e
   cases hb : blk st.hp id with
   | none => simp [hb] at hx
   | some y => exact h.keys id y hb
  ·exact h.keys id x hx
 case grow obl old b mk =>
  refine base1 ⟨hk.1.1, by omega, (st.nid + i, b) :: dropBlk st.hp old, by simp [blk], fun j hj hne => ?_, ?_, fun v w' r' hs hv => ?_⟩
  ·simp only [blk, blk_dropBlk]; rw [if_neg (by omega), if_neg hne]
  ·simp only [blk, blk_dropBlk]; rw [if_neg hk.1.2]; simp
  ·rw [plus_lt] at hs hv
   refine hK _ _ _ hk.2 (by rw [put_nid]; exact Nat.le_refl _) (fun _ => by rw [put_nid]) ⟨r', ?_⟩
   rw [put_nid]
   refine h.step hs (fun id x hx => ?_) (by omega) hd' hv
   simp only [blk, blk_dropBlk] at hx
   split at hx
   ·omega
   ·split at hx
    ·cases hx
    ·have := h.keys id x hx; omega
 case call f args =>
  rcases hk with ⟨pats, res, hc, hs, hk⟩ | ⟨pats, b, res, hc, hs, hk⟩ | ⟨hJ, hk⟩
  ·exact base1 (.inl ⟨pats, res, hc, hs, fun v w' hst hv => hK _ _ _ hk (by rw [put_nid]; exact Nat.le_refl _) (fun _ => by rw [put_nid]) ⟨r, by rw [put_nid]; exact (h.step hst h.keys (Nat.le_refl _) hd' hv).more hk1⟩⟩)
  ·refine base1 (.inr ⟨pats, b, res, hc, hs, by omega, (st.nid + i, b) :: st.hp, by simp [blk], fun j hj => ?_, fun v w' r' hs hv => ?_⟩)
   ·simp only [blk]; rw [if_neg (by omega)]
   ·rw [plus_lt] at hs hv
    refine hK _ _ _ hk (by rw [put_nid]; exact Nat.le_refl _) (fun _ => by rw [put_nid]) ⟨r', ?_⟩
    rw [put_nid]
    refine h.step hs (fun id x hx => ?_) (by omega) hd' hv
    simp only [blk] at hx
    split at hx
    ·omega
    ·have := h.keys id x hx; omega
  ·obtain ⟨x, xs, ts, first, caps, hop, hx, rfl⟩ := stepR_call hres
   refine ⟨fun _ _ => trivial, ?_⟩
   rw [Oper.semAt_eq _ _ _ hdef]
   have hf := h.env x
   rw [hx] at hf
   obtain ⟨dst, op, type, pos, aft, guard⟩ := o
   simp only [] at hop after
   subst hop
   simp only [execOp, resolve, Sem.run_bind]
   generalize a.eval x = u at hf
   cases hf with
   | fn _ _ _ cs ds hl hm h1 h2 =>
    obtain ⟨hl3, h3⟩ := rep_envs xs (fun x _ => h.env x)
    obtain ⟨hl4, h4⟩ := append_get hl3 hm h3 h2
    obtain ⟨hl5, h5⟩ := append_get hl hl4 h1 h4
    obtain ⟨hrun, hcalls⟩ := hk base okc ns r outs a w _ hin hl5 h5
    simp only [Deferred.ofValue, Sem.run_pure, Result.andThen_ok, invoke]
    rw [Array.append_assoc, hrun, Oper.uponIn_enter]
    refine ⟨fun hh => by simp [FR] at hh, calls_FR.2 (hcalls.mono fun e w' => ?_)⟩
    rintro ⟨v, st', r', res, rfl, hK', hn, hi, hv⟩
    exact after v st' r' res w' hJ hK' hn hi hv
 case yield y args =>
  obtain ⟨hJ, hk⟩ := hk
  obtain ⟨x, xs, ts, hop, hx, rfl⟩ := stepR_yield hres
  refine ⟨fun _ _ => trivial, ?_⟩
  rw [Oper.semAt_eq _ _ _ hdef]
  have hf := h.env x
  rw [hx] at hf
  obtain ⟨dst, op, type, pos, aft, guard⟩ := o
  simp only [] at hop after
  subst hop
  simp only [execOp, resolve, Sem.run_bind]
  generalize a.eval x = u at hf
  cases hf with
  | yld _ l hN hr =>
   obtain ⟨hl3, h3⟩ := rep_envs xs (fun x _ => h.env x)
   obtain ⟨fn, tmps, assign, body, hrun, hround⟩ := hk base okc ns r outs a w _ l hin hl3 h3 hN hr
   simp only [Deferred.ofValue, Sem.run_pure, Result.andThen_ok, invoke]
   have e : #[] ++ Array.map a.eval xs = Array.map a.eval xs := by simp
   rw [e, hrun, Oper.uponIn_round]
   refine ⟨fun hh => by simp [FR] at hh, RoundIn.mono (F := FR ro) hround fun e w' => ?_⟩
   rintro ⟨v, st', r', res, rfl, hK', hn, hi, hv⟩
   exact after v st' r' res w' hJ hK' hn hi hv
 case raw =>
  obtain ⟨hJ, hk⟩ := hk
  refine ⟨fun _ _ => trivial, ?_⟩
  rw [Oper.semAt_eq _ _ _ hdef]
  obtain ⟨v, w', hrun, st', r', res, hK', hn, hi, hv⟩ := hk base okc ns r outs a w o rfl hin
  rw [hrun]
  exact after v st' r' res w' hJ hK' hn hi hv
theorem yielded_eq (ops : Array Oper) (a : Act) (j t : Nat) (h : nth (dsts ops.toList) j = some t) : yielded ops a.tmps j = match a.tmps[t]? with | some (.bool b) => some b | _ => none := by
 rw [dsts_get] at h
 unfold yielded
 have : (ops[j]?).bind (·.dst) = some t := by simpa using h
 rw [this]
 rfl
theorem guard_ok {ops : Array Oper} {o : Oper} {run skip : St → Prop} (h : InvR O base okc ns k r outs st a w) (hg : guardVC (dsts ops.toList) o.guard st run skip) :
  ∃ st', st'.nid = st.nid ∧ InvR O base okc ns k r outs st' a w ∧ ((Region.wanted o (yielded ops a.tmps) = true ∧ run st') ∨ (Region.wanted o (yielded ops a.tmps) = false ∧ skip st')) := by
 unfold guardVC at hg
 cases ho : o.guard with
 | none =>
  rw [ho] at hg
  exact ⟨st, rfl, h, .inl ⟨by simp [Region.wanted, ho], hg⟩⟩
 | some gw =>
  obtain ⟨j, want⟩ := gw
  rw [ho] at hg
  cases ht : nth (dsts ops.toList) j with
  | none => simp [ht] at hg
  | some t =>
   have hy := yielded_eq ops a j t ht
   simp only [ht] at hg
   have hrep := h.fr t
   cases hl : look st.fr t with
   | val v =>
    rw [hl] at hrep hg
    have hv : a.tmps.getD t undef = v := by generalize a.tmps.getD t undef = z at hrep; cases hrep; rfl
    cases v with
    | bool b =>
     have hy' : yielded ops a.tmps j = some b := by
      rw [hy]
      simp only [Array.getD_eq_getD_getElem?] at hv
      cases hz : a.tmps[t]? with
      | none => rw [hz] at hv; simp [undef] at hv
      | some z => rw [hz] at hv; simp at hv; rw [hv]
     have hw : Region.wanted o (yielded ops a.tmps) = (b == want) := by
      simp only [Region.wanted, ho, hy']
      cases b <;> cases want <;> rfl
     rw [hw]
     cases b <;> cases want
     ·exact ⟨_, put_nid _ _ _, h.keep hl, .inl ⟨rfl, hg.2 rfl⟩⟩
     ·exact ⟨_, put_nid _ _ _, h.keep hl, .inr ⟨rfl, hg.2 rfl⟩⟩
     ·exact ⟨_, put_nid _ _ _, h.keep hl, .inr ⟨rfl, hg.1 rfl⟩⟩
     ·exact ⟨_, put_nid _ _ _, h.keep hl, .inl ⟨rfl, hg.1 rfl⟩⟩
    | tuple vs =>
     refine ⟨st, rfl, h, .inr ⟨?_, hg⟩⟩
     have hy' : yielded ops a.tmps j = none := by
      rw [hy]
      simp only [Array.getD_eq_getD_getElem?] at hv
      cases hz : a.tmps[t]? with
      | none => rfl
      | some z => rw [hz] at hv; simp at hv; rw [hv]
     simp [Region.wanted, ho, hy']
    | _ => exact hg.elim
   | _ => rw [hl] at hg; exact hg.elim
theorem ops_ok {ro : Option Nat} {allops : Array Oper} {Q : Exit → Act → World → Prop} : ∀ (ops : List Oper) (i : Nat) (st : St) (K : St → Prop) (r : Nat → Option Nat) (a : Act) (w : World), InvR O base okc ns (st.nid + i) r outs st a w → ops.all (dstIn ns) = true →
  opsVC P O J (dsts allops.toList) ops i st K → (∀ st' a' w', K st' → Inv O base okc ns (st'.nid + (i + ops.length)) outs st' a' w' → Q .normal a' w') → wpListIn (FR ro) 0 P allops Q ops a w
 | [], i, st, K, r, a, w, h, hd, hk, hK => hK st a w hk ⟨r, h⟩
 | o :: rest, i, st, K, r, a, w, h, hd, hk, hK => by
  simp only [List.all_cons, Bool.and_eq_true] at hd
  obtain ⟨st', hnid, h', hcase⟩ := guard_ok h hk
  have hlen : i + (o :: rest).length = (i + 1) + rest.length := by simp; omega
  rw [hlen] at hK
  unfold wpListIn
  rcases hcase with ⟨hw, hrun⟩ | ⟨hw, hskip⟩
  ·rw [if_pos hw]
   refine res_ok (h := hnid ▸ h') hd.1 (by exact hrun) fun st1 a1 w1 hk1 hn1 _ ⟨r1, h1⟩ => ?_
   exact ops_ok rest (i + 1) st1 K r1 a1 w1 h1 hd.2 hk1 hK
  ·rw [if_neg (by rw [hw]; simp)]
   have hd' : ∀ t, o.dst = some t → t < ns := fun t ht => by simpa [dstIn, ht] using hd.1
   have h1 : InvR O base okc ns (st.nid + i) r outs (st'.put o.dst undefSV) (a.put o.dst undef) w := h'.step (Step.refl h'.sat) h'.keys (Nat.le_refl _) hd' (.val _)
   exact ⟨fun _ _ => trivial, ops_ok rest (i + 1) _ K r _ w (by rw [put_nid, hnid]; exact h1.more (by omega)) hd.2 hskip hK⟩
end
end Go.Sx
end
