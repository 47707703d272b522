/- The proof engine. -/
import Derived.ProofKit
import Derived.OpenShut
import Derived.Deep.Slices
import Derived.WideKeyArgs
import Derived.Test.YtpdebflfimmnpaaED
section
set_option linter.unusedVariables false
set_option linter.unusedSimpArgs false
namespace Go.Sx
open Go.RowKit
def noDef : Op → Bool
 | .defer _ => false
 | _ => true
def OpVS (P : Program) (O : Ctx) (op : Op) (st : St) (K : St → Prop) : Prop :=
 ∀ (base : World) (okc : Nat → Prop) (ns : Nat) (r : Nat → Option Nat) (outs : Outs) (a : Act) (w : World) (o : Oper), o.op = op → InvR O base okc ns st.nid r outs st a w →
  ∃ w', (execOp a.eval o).run P w = .ok .skip w' ∧ ∃ st' r', K st' ∧ st.nid ≤ st'.nid ∧ InvR O base okc ns st'.nid r' outs st' a w'
def opH (P : Program) (O : Ctx) (ds : List (Option Tmp)) (o : Oper) (st : St) (K : St → Prop) : Prop :=
 guardVC ds o.guard st
  (fun st => resT P O (Tag.mk : Tag True) (Tag.mk : Tag o.op) o.dst st.nid st (fun st' => K ⟨inD o.dst st'.fr, st'.hp, st'.nid + 1⟩) .mk (stepR P (look st.fr) st.hp o.op) ∨ (noDef o.op = true ∧ (OpVC P O o.op st (fun st' res => K (st'.putI o.dst res)) ∨ OpVS P O o.op st (fun st' => K (st'.putI o.dst undefSV)))))
  (fun st => K (st.putI o.dst undefSV))
section
variable {P : Program}
theorem InvR.same {O : Ctx} {base : World} {okc : Nat → Prop} {ns n : Nat} {r : Nat → Option Nat} {outs : Outs} {fr fr' : List (Nat × SV)} {hp : List (Nat × Blk)} {nid : Nat} {a : Act} {w : World} (h : InvR O base okc ns n r outs ⟨fr, hp, nid⟩ a w) (e : ∀ t, look fr' t = look fr t) : InvR O base okc ns n r outs ⟨fr', hp, nid⟩ a w :=
 ⟨h.sat, h.keys, fun t => by show Rep _ _ _ _ (look fr' t) _; rw [e]; exact h.fr t, h.size, h.lo, h.out, h.rfix, h.defers⟩
theorem InvR.putI {O : Ctx} {base : World} {okc : Nat → Prop} {ns n : Nat} {r : Nat → Option Nat} {outs : Outs} {st : St} {d : Option Tmp} {v : SV} {a : Act} {w : World} (h : InvR O base okc ns n r outs (st.put d v) a w) : InvR O base okc ns n r outs (st.putI d v) a w := by
 cases d with
 | none => exact h
 | some d => exact h.same (fr' := putIn st.fr d v) fun t => by rw [look_putIn]; rfl
theorem putI_nid (st : St) (d : Option Tmp) (v : SV) : (st.putI d v).nid = st.nid := by cases d <;> rfl
theorem opH_ok {O : Ctx} {base : World} {okc : Nat → Prop} {ns : Nat} {outs : Outs} {ro : Option Nat} {ops : Array Oper} {Q : Exit → Act → World → Prop} {o : Oper} {st : St} {a : Act} {w : World} {K : St → Prop} {K' : Act → World → Prop}
  (h : Inv O base okc ns st.nid outs st a w) (hd : dstIn ns o = true) (ho : opH P O (dsts ops.toList) o st K) (hK : ∀ st' a' w', K st' → Inv O base okc ns st'.nid outs st' a' w' → K' a' w') :
  if Region.wanted o (yielded ops a.tmps) then o.wpIn (FR ro) 0 P a w K' Q else (∀ f, o.about P w a.eval = some f → (FR ro).fn f) ∧ K' (a.put o.dst undef) w := by
 have hd' : ∀ t, o.dst = some t → t < ns := fun t ht => by simpa [dstIn, ht] using hd
 obtain ⟨r, hr⟩ := h
 obtain ⟨st', hnid, h', hcase⟩ := guard_ok hr ho
 rcases hcase with ⟨hw, hrun⟩ | ⟨hw, hskip⟩
 ·rw [if_pos hw]
  rw [← hnid] at h'
  rcases hrun with hrun | hrun
  ·refine res_ok (i := 0) (by simpa using h') hd (by exact hrun) fun st1 a1 w1 hk1 hn1 _ h1 => ?_
   obtain ⟨r1, h1⟩ := h1.nid (st1.nid + 1)
   exact hK _ _ _ hk1 ⟨r1, h1.same fun t => look_inD _ _ _⟩
  ·obtain ⟨hnd, hrun⟩ := hrun
   have hnd : ∀ c, o.op ≠ .defer c := fun c e => by rw [e] at hnd; cases hnd
   refine ⟨fun _ _ => trivial, ?_⟩
   rw [Oper.semAt_eq _ _ _ hnd]
   rcases hrun with hrun | hrun
   ·obtain ⟨v, w', e1, st2, r', res, hk, hn, hi, hv⟩ := hrun base okc ns r outs a w o rfl h'
    rw [e1]
    exact hK _ _ _ hk ⟨r', by rw [putI_nid]; exact (hi.step (Step.refl hi.sat) hi.keys (Nat.le_refl _) hd' hv).putI⟩
   ·obtain ⟨w', e1, st2, r', hk, hn, hi⟩ := hrun base okc ns r outs a w o rfl h'
    rw [e1]
    exact hK _ _ _ hk ⟨r', by rw [putI_nid]; exact (hi.step (Step.refl hi.sat) hi.keys (Nat.le_refl _) hd' (.val _)).putI⟩
 ·rw [if_neg (by rw [hw]; simp)]
  exact ⟨fun _ _ => trivial, hK _ _ _ hskip ⟨r, by rw [putI_nid, hnid]; exact (h'.step (Step.refl h'.sat) h'.keys (Nat.le_refl _) hd' (.val _)).putI⟩⟩
end
def up : Bool → SV → SV
 | true, v => v
 | false, _ => .top
section
variable {P : Program} {O : Ctx}
end
end Go.Sx
end
section
set_option linter.unusedVariables false
set_option linter.unusedSimpArgs false
namespace Go.Sx
open Go.RowKit Go.ChangeShapes Go.WideShapes Go.ChangeAt
section
variable {H : Type} {enc : TypeId × Value → H} {P : Program}
theorem trodAll_stays (hl : laidOutB P = true) {W W' : World} {sp : Nat → Bool} : ∀ {ts : List TypeId} {vs : List Value} {ds : List (DataW H)} {ps : List MemPlace},
  (ts.all fun t => P.readableRec t && decide (t < P.types.size)) = true → DataW.TrodAll enc P W 0 (fun _ => true) true ts vs ds ps → (∀ p ∈ ps, W.sameAt W' p) → (∀ p ∈ ps, sp p.block = true) → DataW.TrodAll enc P W' 0 sp true ts vs ds ps
 | [], vs, ds, ps, _, h, _, _ => by
  obtain ⟨rfl, rfl, rfl⟩ := trodAll_nil h
  simp [DataW.TrodAll]
 | t :: ts, vs, ds, ps, ha, h, hs, hp => by
  simp only [List.all_cons, Bool.and_eq_true, decide_eq_true_eq] at ha
  obtain ⟨v, vs, d, ds, p, q, rfl, rfl, rfl, h1, h2⟩ := trodAll_cons h
  exact ⟨p, q, WideElems.Trod_stays hl ha.1.1 ha.1.2 h1 (fun x hx => hs x (by simp [hx])) (fun x hx => hp x (by simp [hx])),
   trodAll_stays hl ha.2 h2 (fun x hx => hs x (by simp [hx])) (fun x hx => hp x (by simp [hx])), rfl⟩
theorem law_post {f : Func} {s : ChangeSpec} {W W' : World} {args : Array Value} {ds : List (DataW H)} {before : List MemPlace} {t : TypeId} (hl : laidOutB P = true)
  (hr : (f.params.toList.all fun t => P.readableRec t && decide (t < P.types.size)) = true) (hrt : f.resultTypes = #[t]) (hut : P.underlying t = some .bool) (hv : s.vars = [])
  (hs : s.fn H ds = { results := [.lit (.bool true)], args := ds }) (hW : DataW.Whole enc P f.params.toList s.vars false W args.toList ds [] before) (hb : Below W.heap.size W W') :
  s.post enc P f false true false false W args (.bool true) W' := by
 have hlt : ∀ p ∈ before, p.block < W.heap.size := fun p hp => by simpa using hW.lt p hp
 have hfn : (s.fn H (ds ++ [])).results = [.lit (.bool true)] ∧ (s.fn H (ds ++ [])).args = ds ∧ (s.fn H (ds ++ [])).vars = [] := by rw [List.append_nil, hs]; exact ⟨rfl, rfl, rfl⟩
 have hres : ∀ (b : Nat) (sp : Nat → Bool) (hd : Bool), DataW.TrodAll enc P W' b sp hd f.resultTypes.toList ((Value.bool true).resultList f.resultTypes.size) (s.fn H (ds ++ [])).results [] := fun b sp hd => by
  rw [hfn.1, hrt]
  exact trodAll_cons_mk (shut_bool hut _) trodAll_mk0
 have hW' := hW
 obtain ⟨p, q, hA, hV, rfl, hz, hn⟩ := hW
 rw [hv] at hV
 obtain ⟨_, rfl⟩ := trodVars_none hV
 have hargs : ∀ sp : Nat → Bool, (∀ x ∈ p, sp x.block = true) → DataW.TrodAll enc P W' 0 sp true f.params.toList args.toList (s.fn H (ds ++ [])).args p := fun sp hsp => by
  rw [hfn.2.1]
  exact trodAll_stays hl hr hA (fun x hx => hb.same (hlt x (by simpa using hx))) hsp
 have hold : ∀ x ∈ p, (fun b => decide (b < W.heap.size)) x.block = true := fun x hx => by simpa using hlt x (by simpa using hx)
 refine ⟨ds, [], p ++ [], [], p, [], hW', hres _ _ _, hargs _ hold, ?_, World.keptBut_mono (fun x hx => ⟨hx, .inr (.inl (by simpa using hx))⟩) (hb.frame _), fun h => by cases h⟩
 rw [hfn.2.2, hv]; simp [DataW.TrodVars]
end
theorem cell_lt {w : World} {b o : Nat} {v : Value} (h : w.cell? ⟨b, o, none⟩ = some v) : b < w.heap.size := by
 unfold World.cell? at h
 split at h
 ·rename_i hb
  exact (Array.getElem?_eq_some_iff.1 hb).1
 ·cases h
abbrev Gin (w : World) : Bool → Nat → Prop := fun _ b => True ∧ b < w.heap.size
section
variable {H : Type} {enc : TypeId × Value → H} {P : Program} {w : World}
def Rd (enc : TypeId × Value → H) (P : Program) (w : World) (t : TypeId) (k : Nat) {α : Type} (Q : α → Prop) (sv : α → Nat → SV) : Prop :=
 ∀ fuel cs x, DataW.trod enc P w 0 (fun _ => true) true fuel t cs = some x → ∃ a, Q a ∧ cs.length = k ∧ ∀ j, j < k → Rep noR noN (Gin w) w (sv a j) (cs.getD j undef)
theorem inK_wf {k : IntKind} {n : Int} (h : (Lit.int k n).wf = true) : InK k n := by
 cases k <;> simp [Lit.wf, IntKind.min, IntKind.max, IntKind.signed, IntKind.bits] at h <;> simp only [InK] <;> omega
theorem Rd.int {t : TypeId} {k : IntKind} (ht : P.underlying t = some (.int k)) : Rd enc P w t 1 (fun n : Int => InK k n) (fun n _ => .val (.int k n)) := fun fuel cs x h => by
 obtain ⟨n, rfl, _, hw⟩ := DataW.trod_int ht h
 refine ⟨n, inK_wf hw, rfl, fun j hj => ?_⟩
 have : j = 0 := by omega
 subst this
 exact .val _
theorem Rd.bool {t : TypeId} (ht : P.underlying t = some .bool) : Rd enc P w t 1 (fun _ : Bool => True) (fun b _ => .val (.bool b)) := fun fuel cs x h => by
 obtain ⟨b, rfl, _⟩ := DataW.trod_bool ht h
 refine ⟨b, trivial, rfl, fun j hj => ?_⟩
 have : j = 0 := by omega
 subst this
 exact .val _
theorem Rd.slice {t e : TypeId} {k : Nat} {α : Type} [Inhabited α] {Q : α → Prop} {sv : α → Nat → SV} (ht : P.underlying t = some (.slice e)) (hk : P.cellsOf e = k) (h0 : 0 < k) (he : Rd enc P w e k Q sv) :
  Rd enc P w t 1 (fun x : Nat × (Nat → α) => x.1 ≤ maxLen ∧ ∀ i, i < x.1 → Q (x.2 i)) (fun x _ => .arr false false x.1 k (fun i j => sv (x.2 i) j)) := fun fuel cs x h => by
 rcases Go.Deep.open_slice ht h with ⟨rfl, _⟩ | ⟨a, len, cap, m, n, D, Pl, rfl, hb, hl, hm, hmm, rfl, hx⟩
 ·refine ⟨(0, fun _ => default), ⟨by simp, fun i hi => by omega⟩, rfl, fun j hj => ?_⟩
  have : j = 0 := by omega
  subst this
  exact .arrNil _ _ _ _ _ _ (by simp)
 ·have hm' : m = cap := by simpa using hmm
  subst hm'
  rw [hk] at hx
  have hel : ∀ i, i < len → ∃ (u : α), Q u ∧ ∀ j, j < k → ∃ v, w.cell? ((a.add (i * k)).add j) = some v ∧ Rep noR noN (Gin w) w (sv u j) v := fun i hi => by
   obtain ⟨cs', h1, h2⟩ := hx i (by omega)
   obtain ⟨_, hlen, hat⟩ := World.cells?_some h1
   obtain ⟨u, hu, hl', hrep⟩ := he _ _ _ h2
   refine ⟨u, hu, fun j hj => ⟨cs'.getD j undef, ?_, hrep j hj⟩⟩
   rw [hat j hj]
   simp [hlen, hj]
  have hspot : len ≠ 0 → a.spot = none := fun hne => by
   obtain ⟨u, _, hu⟩ := hel 0 (by omega)
   obtain ⟨v, hv, _⟩ := hu 0 h0
   simpa [Addr.add] using World.cell?_spot hv
  by_cases hne : len = 0
  ·subst hne
   refine ⟨(0, fun _ => default), ⟨by simp, fun i hi => by omega⟩, rfl, fun j hj => ?_⟩
   have : j = 0 := by omega
   subst this
   exact .arrNil _ _ _ _ _ _ (by simp)
  ·have hs := hspot hne
   obtain ⟨b, off, spot⟩ := a
   dsimp only at hs
   subst hs
   obtain ⟨U, hU⟩ := Go.Deep.choose_lt (α := α) (p := fun i u => Q u ∧ ∀ j, j < k → ∃ v, w.cell? (((⟨b, off, none⟩ : Addr).add (i * k)).add j) = some v ∧ Rep noR noN (Gin w) w (sv u j) v) hel
   refine ⟨(len, U), ⟨by show len ≤ maxLen; omega, fun i hi => (hU i hi).1⟩, rfl, fun j hj => ?_⟩
   have : j = 0 := by omega
   subst this
   have hcell : ∀ i j, i < len → j < k → ∃ v, w.cell? ⟨b, off + (i * k + j), none⟩ = some v ∧ Rep noR noN (Gin w) w (sv (U i) j) v := fun i j hi hj => by
    have := (hU i hi).2 j hj
    rwa [addr_add, addr_add, Nat.add_assoc] at this
   refine .arr false false len k _ b off m (fun i j => (w.cell? ⟨b, off + (i * k + j), none⟩).getD undef) ⟨trivial, ?_⟩ (by simp) hl (fun i j hi hj => ?_) (fun i j hi hj => ?_)
   ·obtain ⟨v, hv, _⟩ := hcell 0 0 (by omega) h0
    exact cell_lt hv
   ·obtain ⟨v, hv, _⟩ := hcell i j hi hj
    rw [hv]; rfl
   ·obtain ⟨v, hv, hr⟩ := hcell i j hi hj
    rw [hv]; exact hr
theorem Rd.map {t : TypeId} {k : Nat} {α β : Type} {Q : α → Prop} {sv : α → Nat → SV} {Q' : β → Prop} {sv' : β → Nat → SV} (h : Rd enc P w t k Q sv) (f : α → β) (hf : ∀ a, Q a → Q' (f a) ∧ ∀ j, j < k → sv' (f a) j = sv a j) : Rd enc P w t k Q' sv' := fun fuel cs x hx => by
 obtain ⟨a, ha, hl, hr⟩ := h fuel cs x hx
 obtain ⟨h1, h2⟩ := hf a ha
 exact ⟨f a, h1, hl, fun j hj => by rw [h2 j hj]; exact hr j hj⟩
def RdF (enc : TypeId × Value → H) (P : Program) (w : World) (fs : List Field) {α : Type} (Q : α → Prop) (sv : α → Nat → SV) : Prop :=
 ∀ (n : Nat) (cs : List Value), (∀ f, f ∈ fs → ∃ y, DataW.trod enc P w 0 (fun _ => true) true n f.type ((cs.drop f.offset).take (P.cellsOf f.type)) = some y) →
  ∃ a, Q a ∧ ∀ f, f ∈ fs → ∀ j, f.offset ≤ j → j < f.offset + P.cellsOf f.type → Rep noR noN (Gin w) w (sv a j) (cs.getD j undef)
theorem RdF.nil : RdF enc P w [] (fun _ : Unit => True) (fun _ _ => .top) := fun n cs _ => ⟨(), trivial, fun f hf => by cases hf⟩
theorem RdF.cons {f : Field} {fs : List Field} {α β : Type} {Q : α → Prop} {sv : α → Nat → SV} {Q' : β → Prop} {sv' : β → Nat → SV} {k o : Nat} (h : Rd enc P w f.type k Q sv) (hk : P.cellsOf f.type = k) (ho : f.offset = o) (hs : RdF enc P w fs Q' sv') (hlt : ∀ g, g ∈ fs → o + k ≤ g.offset) :
  RdF enc P w (f :: fs) (fun x : α × β => Q x.1 ∧ Q' x.2) (fun x j => if j < o + k then sv x.1 (j - o) else sv' x.2 j) := fun n cs hc => by
 obtain ⟨y, hy⟩ := hc f (by simp)
 obtain ⟨a, ha, hl, hr⟩ := h _ _ _ hy
 obtain ⟨b, hb, hr'⟩ := hs n cs fun g hg => hc g (by simp [hg])
 refine ⟨(a, b), ⟨ha, hb⟩, fun g hg j h1 h2 => ?_⟩
 by_cases hj : j < o + k
 ·simp only [hj, if_true]
  have hg' : g = f ∨ P.cellsOf g.type = 0 ∨ True := .inr (.inr trivial)
  rcases List.mem_cons.1 hg with rfl | hg
  ·have := hr (j - o) (by omega)
   rw [List.getD_eq_getElem?_getD, List.getElem?_take, if_pos (by omega), List.getElem?_drop] at this
   rw [List.getD_eq_getElem?_getD]
   have e : g.offset + (j - o) = j := by omega
   rwa [e] at this
  ·have := hlt g hg
   omega
 ·simp only [hj, if_false]
  rcases List.mem_cons.1 hg with rfl | hg
  ·omega
  ·exact hr' g hg j h1 h2
theorem Rd.struct {t : TypeId} {k : Nat} {fs : Array Field} {α : Type} {Q : α → Prop} {sv : α → Nat → SV} (ht : P.underlying t = some (.struct fs)) (hk : P.cellsOf t = k) (hf : RdF enc P w fs.toList Q sv)
  (hcov : ((List.range k).all fun j => fs.toList.any fun f => decide (f.offset ≤ j) && decide (j < f.offset + P.cellsOf f.type)) = true) : Rd enc P w t k Q sv := fun fuel cs x h => by
 obtain ⟨xs, n, _, _, hl, hlen, hat⟩ := DataW.trod_struct ht h
 obtain ⟨a, ha, hr⟩ := hf n cs fun f hf => by
  obtain ⟨i, hi, rfl⟩ := List.mem_iff_getElem.1 hf
  have := hat i fs.toList[i] (by rw [← Array.getElem?_toList]; exact List.getElem?_eq_getElem hi)
  rw [this]
  have hi' : i < xs.length := by simpa [hlen] using hi
  exact ⟨xs[i], List.getElem?_eq_getElem hi'⟩
 refine ⟨a, ha, hl.trans hk, fun j hj => ?_⟩
 have := (List.all_eq_true.1 hcov) j (by simpa using hj)
 obtain ⟨f, hf', hc⟩ := List.any_eq_true.1 this
 simp only [Bool.and_eq_true, decide_eq_true_eq] at hc
 exact hr f hf' j hc.1 hc.2
theorem Rd.array {t e : TypeId} {n k : Nat} {α : Type} [Inhabited α] {Q : α → Prop} {sv : α → Nat → SV} (ht : P.underlying t = some (.array n e)) (hk : P.cellsOf e = k) (h0 : 0 < k) (hkt : P.cellsOf t = n * k) (he : Rd enc P w e k Q sv) :
  Rd enc P w t (n * k) (fun u : Nat → α => ∀ i, i < n → Q (u i)) (fun u j => sv (u (j / k)) (j % k)) := fun fuel cs x h => by
 obtain ⟨xs, m, _, _, hl, hlen, hat⟩ := DataW.trod_array ht h
 rw [hk] at hat
 have hel : ∀ i, i < n → ∃ (u : α), Q u ∧ ∀ j, j < k → Rep noR noN (Gin w) w (sv u j) (cs.getD (i * k + j) undef) := fun i hi => by
  have h1 := hat i hi
  rw [List.getElem?_eq_getElem (by omega)] at h1
  obtain ⟨u, hu, hlu, hr⟩ := he _ _ _ h1
  refine ⟨u, hu, fun j hj => ?_⟩
  have := hr j hj
  rwa [List.getD_eq_getElem?_getD, List.getElem?_take, if_pos (by omega), List.getElem?_drop, ← List.getD_eq_getElem?_getD] at this
 obtain ⟨U, hU⟩ := Go.Deep.choose_lt (α := α) (p := fun i u => Q u ∧ ∀ j, j < k → Rep noR noN (Gin w) w (sv u j) (cs.getD (i * k + j) undef)) hel
 refine ⟨U, fun i hi => (hU i hi).1, hl.trans hkt, fun j hj => ?_⟩
 have hjk : j / k < n := Nat.div_lt_of_lt_mul (by rwa [Nat.mul_comm] at hj)
 have := (hU (j / k) hjk).2 (j % k) (Nat.mod_lt _ h0)
 have e : j / k * k + j % k = j := by rw [Nat.mul_comm]; exact Nat.div_add_mod j k
 rwa [e] at this
theorem Rd.one {t : TypeId} {α : Type} {Q : α → Prop} {sv : α → Nat → SV} (h : Rd enc P w t 1 Q sv) {v : Value} {d : DataW H} {p : List MemPlace} (hv : v.cells = #[v]) (ht : DataW.Trod enc P w 0 (fun _ => true) true t v d p) : ∃ a, Q a ∧ Rep noR noN (Gin w) w (sv a 0) v := by
 obtain ⟨fuel, hf⟩ := ht
 obtain ⟨a, ha, _, hr⟩ := h _ _ _ hf
 refine ⟨a, ha, ?_⟩
 have := hr 0 (by omega)
 rw [hv] at this
 exact this
theorem Rd.agg {t : TypeId} {k : Nat} {α : Type} {Q : α → Prop} {sv : α → Nat → SV} (h : Rd enc P w t k Q sv) {v : Value} {d : DataW H} {p : List MemPlace} {cs : Array Value} (hv : v = .agg cs) (ht : DataW.Trod enc P w 0 (fun _ => true) true t v d p) : ∃ a, Q a ∧ Rep noR noN (Gin w) w (.agg ((List.range k).map (sv a))) v := by
 subst hv
 obtain ⟨fuel, hf⟩ := ht
 obtain ⟨a, ha, hl, hr⟩ := h _ _ _ hf
 refine ⟨a, ha, .agg _ _ (by simpa [Value.cells] using hl.symm) fun i sv' hi => ?_⟩
 simp only [List.getElem?_map, List.getElem?_range] at hi
 have hik : i < k := by
  by_cases hik : i < k
  ·exact hik
  ·simp [hik] at hi
 rw [List.getElem?_range hik] at hi
 simp only [Option.map_some, Option.some.injEq] at hi
 subst hi
 have := hr i hik
 simpa [Value.cells] using this
def Reps (w : World) (l : List SV) (vs : List Value) : Prop := l.length = vs.length ∧ ∀ (i : Nat) (sv : SV), l[i]? = some sv → Rep noR noN (Gin w) w sv (vs.getD i undef)
theorem Reps.nil : Reps w [] [] := ⟨rfl, fun i sv h => by simp at h⟩
theorem Reps.cons {a : SV} {v : Value} {l : List SV} {vs : List Value} (h : Rep noR noN (Gin w) w a v) (hs : Reps w l vs) : Reps w (a :: l) (v :: vs) :=
 ⟨by simp [hs.1], fun i sv hi => by
  cases i with
  | zero => simp at hi; subst hi; exact h
  | succ i => simpa using hs.2 i sv (by simpa using hi)⟩
theorem law_calls {f : FuncId} {l : List SV} {args : Array Value} (hc : Contract P f l (.val (.bool true))) (h : Reps w l args.toList) :
  Calls P f args w fun e w' => e = .returned (.bool true) ∧ Below w.heap.size w w' :=
 (hc.2 (fun _ => True) w args (by simpa using h.1) (fun i sv hi => by
  have := h.2 i sv hi
  rwa [List.getD_eq_getElem?_getD, Array.getElem?_toList, ← Array.getD_eq_getD_getElem?] at this)).mono fun e w' ⟨v, he, hb, hv⟩ => by
  cases hv
  exact ⟨he, hb⟩
end
end Go.Sx
end
section
set_option linter.unusedVariables false
set_option linter.unusedSimpArgs false
namespace Go.Sx
open Go.RowKit
section
variable {P : Program} {O : Ctx} {base : World} {okc : Nat → Prop} {ns : Nat} {outs : Outs}
theorem InvR.pushF (far : Nat → List (Nat × Nat)) {r : Nat → Option Nat} {k : Nat} {st : St} {a : Act} {w : World} (h : InvR O base okc ns k r outs st a w) (rcd : Option Loop) (hrc : ∀ L, rcd = some L → L.tmps = a.tmps) (rnd : Bool) {fr : List (Nat × SV)} {a2 : Act} {n2 : Nat} {nid : Nat}
  (hfr : ∀ i, Rep r (· < k) (Gd base okc r (· < k) st.hp w) w (look fr i) (a2.tmps.getD i undef)) (hs : a2.tmps.size = n2) (hd : a2.defers = []) :
  InvR ⟨⟨st.fr, rcd, ns, k⟩ :: O.fs, k, rnd, far⟩ base okc n2 k r ⟨a :: outs.as, r⟩ ⟨fr, st.hp, nid⟩ a2 w := by
 refine ⟨h.sat, h.keys, hfr, hs, Nat.le_refl _, ⟨h.fr, Nat.le_refl _, h.size, hrc, h.out.mono h.lo fun n hn sv v hv => hv⟩, fun _ _ => rfl, ?_⟩
 obtain ⟨Ds, h1, h2, h3⟩ := h.defers
 exact ⟨Ds, by simpa [allD, hd] using h1, h2, h3⟩
theorem InvR.popF {far : Nat → List (Nat × Nat)} {r r0 : Nat → Option Nat} {k k0 : Nat} {st st0 : St} {fr : List (Nat × SV)} {a a0 a2 : Act} {w w0 : World} {rcd : Option Loop} {rnd : Bool} {n2 n0 : Nat} {nid : Nat}
  (h : InvR ⟨⟨fr, rcd, ns, k0⟩ :: O.fs, k0, rnd, far⟩ base okc n2 k r ⟨a :: outs.as, r0⟩ st a2 w) (h0 : InvR O base okc n0 k0 r0 outs st0 a0 w0) :
  InvR O base okc ns k r outs ⟨fr, st.hp, nid⟩ a w := by
 obtain ⟨o1, o2, o3, o4, o5⟩ := h.out
 refine ⟨h.sat, h.keys, fun i => (o1 i).mono (fun _ _ => rfl) (fun i hi => Nat.lt_of_lt_of_le hi h.lo) (fun _ _ hg => ⟨hg, rfl⟩) (Shapes.refl _), o3, Nat.le_trans h0.lo h.lo, o5.low h0.out, fun id hid => (h.rfix id (Nat.lt_of_lt_of_le hid h0.lo)).trans (h0.rfix id hid), ?_⟩
 obtain ⟨Ds, h1, h2, h3⟩ := h.defers
 unfold allD at h1
 simp only [List.map_cons, List.flatten_cons] at h1
 obtain ⟨l1, l2, rfl, e1, e2⟩ := List.append_eq_map_iff.1 h1
 exact ⟨l2, e2.symm, (List.nodup_append.1 h2).2.1, fun D hD => h3 D (by simp [hD])⟩
def RecOkF (far : Nat → List (Nat × Nat)) (fs : List Fr) (L : Loop) (fr : List (Nat × SV)) (ps : List Tmp) (A B : Code) : Prop :=
 ∃ ns lo rest, fs = ⟨fr, some L, ns, lo⟩ :: rest ∧ codeOkF far ns A = true ∧ codeOkF far ns B = true ∧ ps.all (fun t => decide (t < ns)) = true ∧ L.params = ps.toArray ∧ L.assign = A ∧ L.body = B
theorem yield_vcF {far : Nat → List (Nat × Nat)} (hm : P.follows .mixedOrders = true) {y : Nat} {args : List SV} {st : St} {K : St → SV → Prop} {L : Loop} {fr : List (Nat × SV)} {ps : List Tmp} {A B : Code} (R : RecOkF far O.fs L fr ps A B) (hb : blk st.hp y = some (.loop L .ready)) (hlen : args.length = ps.length)
  (h : ∀ out : List Fr, vc P ⟨out, st.nid, true, far⟩ A ⟨putPs fr ps args, st.hp, st.nid⟩ (roundMid P ⟨out, st.nid, true, far⟩ y L B (roundEnd y L st.fr K))) : YieldVC P O y args st K := by
 obtain ⟨nc, lo, rest, hfs, hcA, hcB, hps, hpar, hass, hbody⟩ := R
 intro base okc ns r outs a w vs l h0 hl ha hy hr
 obtain ⟨hheap, -⟩ := rec_turn (s' := .ready) h0 hb hr
 have hrun := run_yield (P := P) (args := vs) hheap (by show vs.size = L.params.size; rw [hpar, ← hl, hlen]; simp)
 refine ⟨_, _, _, _, hrun, ?_⟩
 have hout := h0.out
 rw [hfs] at hout
 obtain ⟨ac, outs', hac, o1, o2, o3, o4, o5⟩ : ∃ ac outs', outs.as = ac :: outs' ∧ (∀ i, Rep r (· < lo) (Gd base okc r (· < st.nid) st.hp w) w (look fr i) (ac.tmps.getD i undef)) ∧ lo ≤ O.lo ∧ ac.tmps.size = nc ∧ (∀ L', some L = some L' → L'.tmps = ac.tmps) ∧ OutOk r O.lo (Gd base okc r (· < st.nid) st.hp w) w rest outs' := by
  cases hA : outs.as with
  | nil => rw [hA] at hout; exact hout.elim
  | cons ac outs' => rw [hA] at hout; exact ⟨ac, outs', rfl, hout⟩
 have htm : L.tmps = ac.tmps := o4 L rfl
 obtain ⟨q1, q2⟩ := putPs_rep (r := r) (N := (· < st.nid)) (G := Gd base okc r (· < st.nid) st.hp w) (w := w) (ns := nc) (ps := ps) (args := args) (vs := vs.toList) (fr := fr) (tmps := L.tmps)
  (fun i => by rw [htm]; exact (o1 i).mono (fun _ _ => rfl) (fun i hi => Nat.lt_of_lt_of_le hi (Nat.le_trans o2 h0.lo)) (fun _ _ hg => ⟨hg, rfl⟩) (Shapes.refl _)) (by rw [htm]; exact o3) hps (by simpa using hl) (fun i sv hi => by simpa using ha i sv hi)
 have htmps : (L.params.zip vs).foldl (fun tmps (t, a) => tmps.setIfInBounds t a) L.tmps = (ps.zip vs.toList).foldl (fun tmps (t, a) => tmps.setIfInBounds t a) L.tmps := by
  rw [hpar, ← Array.foldl_toList]
  simp
 show RoundIn Fence.wide 0 P l L.fn ((L.params.zip vs).foldl (fun tmps (t, a) => tmps.setIfInBounds t a) L.tmps) L.assign L.body w _
 rw [htmps, hass, hbody]
 refine roundIn_of_wpIn (F := Fence.wide) trivial ?_
 have hI := h0.pushF far none (fun _ h => by cases h) true (a2 := { tmps := (ps.zip vs.toList).foldl (fun tmps (t, a) => tmps.setIfInBounds t a) L.tmps, defers := [] }) (n2 := nc) (nid := st.nid) q1 q2 rfl
 refine vc_ok hm (ro := some l) (O := ⟨⟨st.fr, none, ns, st.nid⟩ :: O.fs, st.nid, true, far⟩) rfl A _ _ _ _ _ hcA (h _) ⟨r, hI⟩ fun e st1 a1 w1 hk hi1 => ?_
 cases e with
 | exit i => exact hk.elim
 | ret => exact hk.elim
 | normal =>
  obtain ⟨hb1, hvc⟩ := hk
  have hb1 := isReady_eq hb1
  obtain ⟨r1, hi1⟩ := hi1
  have e1 : r1 y = some l := (hi1.rfix y hy).trans hr
  obtain ⟨g1, t1⟩ := rec_turn (s' := .busy) hi1 hb1 e1
  refine ⟨_, run_beginRound g1 rfl, ?_⟩
  refine vc_ok hm (ro := some l) (O := ⟨⟨st.fr, none, ns, st.nid⟩ :: O.fs, st.nid, true, far⟩) rfl B _ _ _ _ _ hcB hvc ⟨r1, t1⟩ fun e st2 a2 w2 hk2 hi2 => ?_
  obtain ⟨hb2, hk2⟩ := hk2
  have hb2 := isBusy_eq hb2
  obtain ⟨r2, hi2⟩ := hi2
  have e2 : r2 y = some l := (hi2.rfix y hy).trans hr
  have fin : ∀ (jump : Option Code) (s' : RSt), s'.state = (if jump.isNone then LoopState.ready else .done) → s'.pend = jump → K ⟨st.fr, setBlk st2.hp y (.loop L s'), st2.nid⟩ (.val (.bool jump.isNone)) →
    ∃ v w', (Instr.endRound l jump).run P w2 = .ok v w' ∧ ∃ v' st' r' res, Ending.returned v = .returned v' ∧ K st' res ∧ st.nid ≤ st'.nid ∧ InvR O base okc ns st'.nid r' outs st' a w' ∧ Rep r' (· < st'.nid) (Gd base okc r' (· < st'.nid) st'.hp w') w' res v' := by
   intro jump s' hs1 hs2 hK
   obtain ⟨g2, t2⟩ := rec_turn (s' := s') hi2 hb2 e2
   refine ⟨_, _, run_endRound jump g2, _, ⟨st.fr, setBlk st2.hp y (.loop L s'), st2.nid⟩, r2, _, rfl, hK, hi2.lo, ?_, .val _⟩
   rw [hs1, hs2] at t2
   exact t2.popF (nid := st2.nid) h0
  cases e with
  | normal => exact fin none .ready rfl rfl hk2
  | ret => exact fin (some .ret) .retd rfl rfl hk2
  | exit i => exact fin (some (.exit i)) (.left i) rfl rfl hk2
end
section
variable {P : Program} {O : Ctx} {J : Prop} {j : Tag J}
theorem yieldIT (hm : P.follows .mixedOrders = true) {far : Nat → List (Nat × Nat)} {d : Option Tmp} {id : Nat} {fr : List (Nat × SV)} {hp : List (Nat × Blk)} {K : St → Prop} {g : Tag K} {y : Nat} {args : List SV} {L : Loop} {fr0 : List (Nat × SV)} {ps : List Tmp} {A B : Code} (hJ : J) (R : RecOkF far O.fs L fr0 ps A B) (hb : blk hp y = some (.loop L .ready)) (hlen : args.length = ps.length)
  (h : ∀ out : List Fr, vc P ⟨out, id, true, far⟩ A ⟨putPs fr0 ps args, hp, id⟩ (roundMid P ⟨out, id, true, far⟩ y L B (roundEnd y L fr fun st' res => K (st'.put d res)))) : YieldOr P O j d id fr hp K g y args :=
 ⟨hJ, yield_vcF hm R hb hlen h⟩
end
end Go.Sx
end
