/- The proof engine. -/
import Derived.ProofKit
import Derived.OpenShut
import Derived.Deep.Slices
import Derived.WideKeyArgs
import Derived.Test.YtbomildlhnllhaaED
section
set_option linter.unusedVariables false
set_option linter.unusedSimpArgs false
namespace Go.Sx
open Go.RowKit
def noDef : Op → Bool
 | .defer _ => false
 | _ => true
def OpVS (P : Program) (O : Ctx) (op : Op) (st : St) (K : St → Prop) : Prop :=
 ∀ (base : World) (okc : Nat → Prop) (ns : Nat) (r : Nat → Option Nat) (outs : Outs) (a : Act) (w : World) (o : Oper), o.op = op → InvR O base okc ns st.nid r outs st a w →
  ∃ w', (execOp a.eval o).run P w = .ok .skip w' ∧ ∃ st' r', K st' ∧ st.nid ≤ st'.nid ∧ InvR O base okc ns st'.nid r' outs st' a w'
def opH (P : Program) (O : Ctx) (ds : List (Option Tmp)) (o : Oper) (st : St) (K : St → Prop) : Prop :=
 guardVC ds o.guard st
  (fun st => resT P O (Tag.mk : Tag True) (Tag.mk : Tag o.op) o.dst st.nid st (fun st' => K ⟨inD o.dst st'.fr, st'.hp, st'.nid + 1⟩) .mk (stepR P (look st.fr) st.hp o.op) ∨ (noDef o.op = true ∧ (OpVC P O o.op st (fun st' res => K (st'.putI o.dst res)) ∨ OpVS P O o.op st (fun st' => K (st'.putI o.dst undefSV)))))
  (fun st => K (st.putI o.dst undefSV))
def stepsH (f : Nat → Oper → Prop) : Nat → List Oper → Prop
 | _, [] => True
 | i, o :: rest => f i o ∧ stepsH f (i + 1) rest
theorem stepsH_nil {f : Nat → Oper → Prop} {i : Nat} : stepsH f i [] := trivial
theorem stepsH_cons {f : Nat → Oper → Prop} {i : Nat} {o : Oper} {rest : List Oper} (h : f i o) (h' : stepsH f (i + 1) rest) : stepsH f i (o :: rest) := ⟨h, h'⟩
theorem stepsH_get {f : Nat → Oper → Prop} : ∀ {ops : List Oper} {i : Nat}, stepsH f i ops → ∀ j o, ops[j]? = some o → f (i + j) o
 | [], i, h, j, o, ho => by simp at ho
 | p :: ops, i, h, j, o, ho => by
  cases j with
  | zero => simp at ho; subst ho; exact h.1
  | succ j => have := stepsH_get h.2 j o (by simpa using ho); rwa [show i + 1 + j = i + (j + 1) by omega] at this
def ClosedM (ms : List Nat) (m : Nat) : Prop := ∀ j i, (ms.getD j 0).testBit i = true → m.testBit j = true → m.testBit i = true
def HandOp (P : Program) (O : Ctx) (ops : List Oper) (ms : List Nat) (inv : Nat → St → Prop) (i : Nat) (o : Oper) : Prop :=
 ∀ m st, inv m st → ClosedM ms m → m.testBit i = false → (∀ j, (ms.getD i 0).testBit j = true → j ≠ i → m.testBit j = true) →
  opH P O (dsts ops) o st fun st2 => ∃ st3, Weak O st2 st3 ∧ inv (m ||| 2 ^ i) st3
section
variable {P : Program}
theorem InvR.same {O : Ctx} {base : World} {okc : Nat → Prop} {ns n : Nat} {r : Nat → Option Nat} {outs : Outs} {fr fr' : List (Nat × SV)} {hp : List (Nat × Blk)} {nid : Nat} {a : Act} {w : World} (h : InvR O base okc ns n r outs ⟨fr, hp, nid⟩ a w) (e : ∀ t, look fr' t = look fr t) : InvR O base okc ns n r outs ⟨fr', hp, nid⟩ a w :=
 ⟨h.sat, h.keys, fun t => by show Rep _ _ _ _ (look fr' t) _; rw [e]; exact h.fr t, h.size, h.lo, h.out, h.rfix, h.defers⟩
theorem InvR.putI {O : Ctx} {base : World} {okc : Nat → Prop} {ns n : Nat} {r : Nat → Option Nat} {outs : Outs} {st : St} {d : Option Tmp} {v : SV} {a : Act} {w : World} (h : InvR O base okc ns n r outs (st.put d v) a w) : InvR O base okc ns n r outs (st.putI d v) a w := by
 cases d with
 | none => exact h
 | some d => exact h.same (fr' := putIn st.fr d v) fun t => by rw [look_putIn]; rfl
theorem putI_nid (st : St) (d : Option Tmp) (v : SV) : (st.putI d v).nid = st.nid := by cases d <;> rfl
theorem opH_ok {O : Ctx} {base : World} {okc : Nat → Prop} {ns : Nat} {outs : Outs} {ro : Option Nat} {ops : Array Oper} {Q : Exit → Act → World → Prop} {o : Oper} {st : St} {a : Act} {w : World} {K : St → Prop} {K' : Act → World → Prop}
  (h : Inv O base okc ns st.nid outs st a w) (hd : dstIn ns o = true) (ho : opH P O (dsts ops.toList) o st K) (hK : ∀ st' a' w', K st' → Inv O base okc ns st'.nid outs st' a' w' → K' a' w') :
  if Region.wanted o (yielded ops a.tmps) then o.wpIn (FR ro) 0 P a w K' Q else (∀ f, o.about P w a.eval = some f → (FR ro).fn f) ∧ K' (a.put o.dst undef) w := by
 have hd' : ∀ t, o.dst = some t → t < ns := fun t ht => by simpa [dstIn, ht] using hd
 obtain ⟨r, hr⟩ := h
 obtain ⟨st', hnid, h', hcase⟩ := guard_ok hr ho
 rcases hcase with ⟨hw, hrun⟩ | ⟨hw, hskip⟩
 ·rw [if_pos hw]
  rw [← hnid] at h'
  rcases hrun with hrun | hrun
  ·refine res_ok (i := 0) (by simpa using h') hd (by exact hrun) fun st1 a1 w1 hk1 hn1 _ h1 => ?_
   obtain ⟨r1, h1⟩ := h1.nid (st1.nid + 1)
   exact hK _ _ _ hk1 ⟨r1, h1.same fun t => look_inD _ _ _⟩
  ·obtain ⟨hnd, hrun⟩ := hrun
   have hnd : ∀ c, o.op ≠ .defer c := fun c e => by rw [e] at hnd; cases hnd
   refine ⟨fun _ _ => trivial, ?_⟩
   rw [Oper.semAt_eq _ _ _ hnd]
   rcases hrun with hrun | hrun
   ·obtain ⟨v, w', e1, st2, r', res, hk, hn, hi, hv⟩ := hrun base okc ns r outs a w o rfl h'
    rw [e1]
    exact hK _ _ _ hk ⟨r', by rw [putI_nid]; exact (hi.step (Step.refl hi.sat) hi.keys (Nat.le_refl _) hd' hv).putI⟩
   ·obtain ⟨w', e1, st2, r', hk, hn, hi⟩ := hrun base okc ns r outs a w o rfl h'
    rw [e1]
    exact hK _ _ _ hk ⟨r', by rw [putI_nid]; exact (hi.step (Step.refl hi.sat) hi.keys (Nat.le_refl _) hd' (.val _)).putI⟩
 ·rw [if_neg (by rw [hw]; simp)]
  exact ⟨fun _ _ => trivial, hK _ _ _ hskip ⟨r, by rw [putI_nid, hnid]; exact (h'.step (Step.refl h'.sat) h'.keys (Nat.le_refl _) hd' (.val _)).putI⟩⟩
theorem rawRegion (hm : P.follows .mixedOrders = true) {O : Ctx} {st st0 : St} {K : Ex → St → Prop} {id : Nat} {ops : List Oper} (inv : Nat → St → Prop) {ms : List Nat} (hms : masks [] ops = ms) (hedge : edgesOk 0 ops = true) (hw0 : Weak O st st0) (h0 : inv 0 st0) (hs : stepsH (HandOp P O ops ms inv) 0 ops)
  (hend : ∀ m st', inv m st' → (∀ i, i < ops.length → m.testBit i = true) → K .normal st') {g : Tag K} : HandT P O id ops true st K g := by
 subst hms
 intro base okc ns outs a w ro Q hro hc hi hK
 replace hi := hw0 _ _ _ _ _ _ hi
 simp only [codeOkF, Bool.and_eq_true] at hc
 obtain ⟨hd, -⟩ := hc
 have hd : ops.all (dstIn ns) = true := by simpa using hd
 have hn : ops.toArray.size = ops.length := by simp
 have hget : ∀ j : Nat, ops.toArray[j]? = ops[j]? := fun j => by simp
 have hedge := edgesOk_spec hedge
 have hclosed : ∀ (S : Nat → Bool) (i : Nat), Closed ops S → (∃ o, ops[i]? = some o ∧ ∀ e ∈ o.after, Region.binds .any e = true → S e.on = true) → Closed ops (fun j => S j || decide (j = i)) := by
  rintro S i hc ⟨o, ho, he⟩ j oj hoj hS e hm' hb
  simp only [Bool.or_eq_true, decide_eq_true_eq] at hS ⊢
  rcases hS with hS | hS
  ·exact .inl (hc j oj hoj hS e hm' hb)
  ·subst hS
   rw [ho] at hoj; cases hoj
   exact .inl (he e hm' hb)
 have hready : ∀ (listed : Array Bool) (i : Nat), listed.size = ops.length → i ∈ Region.ready .any ops.toArray listed → i < ops.length ∧ listed.getD i false = false ∧ ∃ o, ops[i]? = some o ∧ ∀ e ∈ o.after, Region.binds .any e = true → listed.getD e.on false = true := by
  intro listed i hsz hi
  obtain ⟨h1, o, h2, h3⟩ := mem_ready.1 hi
  rw [hget] at h2
  have hlt : i < ops.length := (List.getElem?_eq_some_iff.1 h2).1
  refine ⟨hlt, ?_, o, h2, h3⟩
  have : i < listed.size := by omega
  simpa [this] using h1
 have hleast : ∀ (listed : Array Bool), listed.size = ops.length → ∀ i, i < ops.length → listed.getD i false = false → ∃ j, j ≤ i ∧ j ∈ Region.ready .any ops.toArray listed := by
  intro listed hsz i
  induction i using Nat.strongRecOn with
  | _ i ih =>
   intro hi hf
   obtain ⟨o, ho⟩ : ∃ o, ops[i]? = some o := ⟨ops[i], by simp [hi]⟩
   by_cases hall : ∀ e ∈ o.after, Region.binds .any e = true → listed.getD e.on false = true
   ·refine ⟨i, Nat.le_refl _, mem_ready.2 ⟨?_, o, by rw [hget]; exact ho, hall⟩⟩
    have : i < listed.size := by omega
    simpa [this] using hf
   ·have : ∃ e, e ∈ o.after ∧ Region.binds .any e = true ∧ listed.getD e.on false = false := by
     refine Classical.byContradiction fun hno => hall fun e he hb => ?_
     cases hv : listed.getD e.on false with
     | true => rfl
     | false => exact (hno ⟨e, he, hb, hv⟩).elim
    obtain ⟨e, he, hb, hv⟩ := this
    have hlt := hedge i o ho e he hb
    rw [Nat.zero_add] at hlt
    obtain ⟨j, hj, hr⟩ := ih e.on hlt (by omega) hv
    exact ⟨j, by omega, hr⟩
 have main : ∀ (fuel : Nat) (listed : Array Bool) (m : Nat) (st : St) (a : Act) (w : World), listed.size = ops.length → (∀ i, listed.getD i false = m.testBit i) → Closed ops (fun i => listed.getD i false) → cnt (fun i => listed.getD i false) ops.length = fuel →
   inv m st → Inv O base okc ns st.nid outs st a w → wpAnyIn (FR ro) 0 P .any ops.toArray Q fuel listed a w := by
  intro fuel
  induction fuel with
  | zero =>
   intro listed m st a w hsz hbit hcl hcnt hin hi
   have hall := cnt_zero hcnt
   refine ⟨?_, hK .normal st a w (hend m st hin fun i hi => by rw [← hbit]; exact hall i hi) hi⟩
   cases hr : Region.ready .any ops.toArray listed with
   | nil => rfl
   | cons x xs =>
    obtain ⟨h1, h2, -⟩ := hready listed x hsz (by rw [hr]; exact List.mem_cons_self)
    have := hall x h1
    simp only [h2] at this
    cases this
  | succ fuel ih =>
   intro listed m st a w hsz hbit hcl hcnt hin hi
   refine ⟨fun h => ?_, fun i hir => ?_⟩
   ·exfalso
    have : ∃ x, x < ops.length ∧ listed.getD x false = false := by
     refine Classical.byContradiction fun hno => ?_
     have : ∀ n, n ≤ ops.length → cnt (fun i => listed.getD i false) n = 0 := by
      intro n
      induction n with
      | zero => intro _; rfl
      | succ n ihn =>
       intro hn'
       simp only [cnt]
       rw [ihn (by omega)]
       have hv : listed.getD n false = true := by
        refine Classical.byContradiction fun hv => hno ⟨n, by omega, by simpa using hv⟩
       rw [if_pos hv]
     rw [this _ (Nat.le_refl _)] at hcnt
     cases hcnt
    obtain ⟨x, hx, hxf⟩ := this
    obtain ⟨y, _, hr⟩ := hleast listed hsz x hx hxf
    rw [h] at hr; cases hr
   ·obtain ⟨hil, hif, o, ho, hie⟩ := hready listed i hsz hir
    have hcl' := hclosed _ i hcl ⟨o, ho, hie⟩
    have hS : ∀ x, (listed.setIfInBounds i true).getD x false = (listed.getD x false || decide (x = i)) := fun x => getD_set (by omega)
    have hop := stepsH_get hs i o ho
    rw [Nat.zero_add] at hop
    have hop := hop m st hin (fun j x hb hj => by
     rw [← hbit] at hj ⊢
     exact masks_closed (S := fun i => listed.getD i false) hcl hb hj) (by rw [← hbit]; exact hif) (fun j hb hne => by
     have := masks_closed hcl' hb (by simp)
     simp only [Bool.or_eq_true, decide_eq_true_eq] at this
     rw [← hbit]
     exact this.resolve_right hne)
    have hdo : dstIn ns o = true := List.all_eq_true.1 hd o (List.mem_of_getElem? ho)
    unfold wpOpIn
    simp only [hget, ho]
    refine opH_ok (ops := ops.toArray) hi hdo (by simpa using hop) fun st' a' w' hst3 hi' => ?_
    obtain ⟨st3, hw, hin'⟩ := hst3
    refine ih _ (m ||| 2 ^ i) st3 a' w' (by simpa using hsz) (fun x => ?_) ?_ ?_ hin' (hw _ _ _ _ _ _ hi')
    ·rw [hS, hbit, Nat.testBit_or, Nat.testBit_two_pow]
     congr 1
     simp [eq_comm]
    ·have : (fun x => (listed.setIfInBounds i true).getD x false) = fun x => listed.getD x false || decide (x = i) := funext hS
     rw [this]; exact hcl'
    ·have := (cnt_set (S := fun i => listed.getD i false) (S' := fun x => (listed.setIfInBounds i true).getD x false) hS hif (n := ops.length)).2 hil
     omega
 refine wpIn_region_any hm ?_
 rw [hn]
 have hrep0 : ∀ i, (Array.replicate ops.length false).getD i false = false := fun i => by simp only [Array.getD_eq_getD_getElem?, Array.getElem?_replicate]; split <;> rfl
 obtain ⟨r0, hr0⟩ := hi
 have hdrew : Below w.heap.size w { w with drawn := w.drawn + 1 } := ⟨rfl, rfl, rfl, Nat.le_refl _, fun _ _ => rfl⟩
 have hi1 : InvR O base okc ns st0.nid r0 outs st0 a { w with drawn := w.drawn + 1 } := hr0.step (hr0.sat.grow hdrew) hr0.keys (Nat.le_refl _) (d := none) (fun t ht => by cases ht) (.top undef)
 refine main ops.length (Array.replicate ops.length false) 0 st0 a _ (by simp) (fun i => by rw [hrep0]; simp) ?_ ?_ h0 ⟨r0, hi1⟩
 ·intro j o ho hS; simp only [hrep0] at hS; cases hS
 ·have key : ∀ n, cnt (fun i => (Array.replicate ops.length false).getD i false) n = n := by
   intro n
   induction n with
   | zero => rfl
   | succ n ihn =>
    simp only [cnt, ihn]
    rw [if_neg (by rw [hrep0]; simp)]
  exact key _
end
def up : Bool → SV → SV
 | true, v => v
 | false, _ => .top
theorem up_true (v : SV) : up true v = v := rfl
theorem up_false (v : SV) : up false v = .top := rfl
theorem tb (m i j : Nat) : (m ||| 2 ^ i).testBit j = (m.testBit j || decide (i = j)) := by rw [Nat.testBit_or, Nat.testBit_two_pow]
section
variable {P : Program} {O : Ctx}
theorem findIdx_one {es : Array MapEntry} {clock : Nat} (ht : Born es clock) {j : Nat} {e0 : MapEntry} (h : es[j]? = some e0) : es.findIdx? (fun e => (e.born : Int) == (e0.born : Int)) = some j := by
 cases hf : es.findIdx? (fun e => (e.born : Int) == (e0.born : Int)) with
 | none =>
  have := Array.findIdx?_eq_none_iff.1 hf e0 (Array.mem_of_getElem? h)
  simp at this
 | some i =>
  obtain ⟨hlt, h1, -⟩ := Array.findIdx?_eq_some_iff_getElem.1 hf
  have e1 : (es[i]).born = e0.born := by
   have := beq_iff_eq.1 h1
   omega
  rw [ht.once i j es[i] e0 (by simp [hlt]) h e1]
theorem mEntry_vc {t : TypeId} {m k : Operand} {mid : Nat} {dom : Value → Bool} {get : Value → SV} {st : St} {K : St → SV → Prop} {ag : Bool} {ls : List Lf} {z v : Value} (hx : env (look st.fr) m = .mp mid) (hk : keyV (env (look st.fr) k) = some v) (ht : mapInfo P t = some ⟨ag, ls, z⟩) (hb : blk st.hp mid = some (.map (keyFit ag ls) dom get))
  (hfv : keyFit ag ls v = true) (hd : dom v = false)
  (h : ∀ (stamp : Value → Nat) (clk : Nat), K ⟨st.fr, setBlk st.hp mid (.mapS (keyFit ag ls) (putDom dom v) (putGet get v (.val z)) stamp clk), st.nid⟩ (.tup [.val z, .val (.int .i64 (stamp v))])) : OpVC P O (.mapEntry t m k) st K := by
 intro base okc ns r outs a w o ho hi
 obtain ⟨kt, et, ii, hu, hki, hinf, hz, hz1⟩ := mapInfo_spec ht
 simp only [] at hki hz
 have hv := hi.env m
 rw [hx] at hv
 have hkk := hi.env k
 generalize hex : a.eval m = u at hv
 generalize hek : a.eval k = y at hkk
 obtain rfl := keyV_rep hk hkk
 cases hv with
 | mp _ b hN hr =>
 have hrep := hi.sat.rep mid _ hb hN
 rw [hr] at hrep
 cases hrep with
 | map _ _ _ _ es clock hb' hmo htm hes =>
 obtain ⟨-, p2⟩ := mapOf_put hki hmo htm hfv z
 obtain ⟨hf, hmo', ht', hall⟩ := p2 hd
 have hst : ∀ e, e ∈ es.push { key := y, val := z, born := clock } → e.born = stampOf (es.push { key := y, val := z, born := clock }) e.key := fun e he => by
  have hex : ∃ e', e' ∈ es.push { key := y, val := z, born := clock } ∧ e'.key = e.key := ⟨e, he, rfl⟩
  unfold stampOf
  rw [dif_pos hex]
  obtain ⟨c1, c2⟩ := Classical.choose_spec hex
  obtain ⟨i, hi⟩ := Array.mem_iff_getElem?.1 he
  obtain ⟨j, hj⟩ := Array.mem_iff_getElem?.1 c1
  have := hmo'.once i j _ _ hi hj c2.symm
  subst this
  rw [hi] at hj
  injection hj with hj
  rw [← hj]
 have hself : eqK y y = true := (eqK_iff hki hfv hfv).2 rfl
 have s1 : Step base okc r (· < st.nid) st.hp w r (· < st.nid) (setBlk st.hp mid (.mapS (keyFit ag ls) (putDom dom y) (putGet get y (.val z)) (stampOf (es.push { key := y, val := z, born := clock })) (clock + 1))) { w with heap := w.heap.setIfInBounds b (.map (es.push { key := y, val := z, born := clock }) (clock + 1)) } :=
  put_step hi.sat hb hN hr hb' (fun _ _ _ => by simp) (.map (es.push { key := y, val := z, born := clock }) (clock + 1)) _ fun G' w' hw' hrep => .mapS _ _ _ _ b _ (clock + 1) hw' hmo' ht' hst fun e' he' => by
   rcases hall e' he' with ⟨e1, e2⟩ | ⟨e1, e2⟩
   ·rw [e1, e2]
    simp only [putGet, hself, svIte, if_true]
    exact .val _
   ·have : eqK y e'.key = false := by
     cases hq : eqK y e'.key with
     | false => rfl
     | true => exact absurd (eqK_eq hq).symm e2
    simp only [putGet, this, svIte, Bool.false_eq_true, if_false]
    exact hrep _ _ (hes e' e1)
 have hi1 : InvR O base okc ns st.nid r outs ⟨st.fr, setBlk st.hp mid (.mapS (keyFit ag ls) (putDom dom y) (putGet get y (.val z)) (stampOf (es.push { key := y, val := z, born := clock })) (clock + 1)), st.nid⟩ a { w with heap := w.heap.setIfInBounds b (.map (es.push { key := y, val := z, born := clock }) (clock + 1)) } :=
  hi.step s1 (keys_set hb hi.keys) (Nat.le_refl _) (d := none) (fun t ht => by cases ht) (.top undef)
 have hcl : clock = stampOf (es.push { key := y, val := z, born := clock }) y := hst { key := y, val := z, born := clock } Array.mem_push_self
 refine ⟨.tuple #[z, goInt clock], _, ?_, ⟨st.fr, setBlk st.hp mid _, st.nid⟩, r, _, h (stampOf (es.push { key := y, val := z, born := clock })) (clock + 1), Nat.le_refl _, hi1, .tup _ _ rfl fun i sv hi => ?_⟩
 ·have e : execOp a.eval o = (do pure (.value (← Instr.mapEntry t (a.eval m) (a.eval k)))) := by
   obtain ⟨dst, op, type, pos, aft, guard⟩ := o
   simp only [] at ho; subst ho; rfl
  rw [e, hex, hek]
  have hobj : (getObj b).run P w = .ok (.map es clock) w := by simp [getObj, Sem.run, hb']
  have hset : ∀ o, (setObj b o).run P w = .ok () { w with heap := w.heap.setIfInBounds b o } := fun o => by simp [setObj, Sem.run, hb']
  have hfes : ∀ e ∈ es.toList, keyFit ag ls e.key = true := fun e he => hmo.fits e (by simpa using he)
  have hzr : (zeroValue et).run P w = .ok z w := by simp [zeroValue, typeInfo, hinf, hz]
  simp only [Instr.mapEntry, Sem.run_bind, run_underlying hu, Result.andThen_ok, hobj, run_checkK hki hfv, run_findK hki hfv es.toList hfes, hf, hzr, hset, Sem.run_pure]
 ·match i, hi with
  | 0, hi => simp at hi; subst hi; exact .val _
  | 1, hi =>
   simp at hi; subst hi
   rw [← hcl]
   exact .val _
theorem mStore_vc {t : TypeId} {m s x : Operand} {mid clk : Nat} {fit dom : Value → Bool} {get : Value → SV} {stamp : Value → Nat} {st : St} {K : St → Prop} {v : Value} {kt : TypeId} {ag : Bool} {ls : List Lf} (hki : keyInfo P kt = some (ag, ls)) (hfit : fit = keyFit ag ls) (hx : env (look st.fr) m = .mp mid) (hs : env (look st.fr) s = .val (.int .i64 (stamp v))) (hb : blk st.hp mid = some (.mapS fit dom get stamp clk))
  (hd : dom v = true)
  (h : K ⟨st.fr, setBlk st.hp mid (.map fit dom (putGet get v (env (look st.fr) x))), st.nid⟩) : OpVS P O (.entryStore t m s x) st K := by
 subst hfit
 intro base okc ns r outs a w o ho hi
 have hv := hi.env m
 rw [hx] at hv
 have hss := hi.env s
 rw [hs] at hss
 have hxx := hi.env x
 generalize hex : a.eval m = u at hv
 generalize hes' : a.eval s = u2 at hss
 generalize hexx : a.eval x = y at hxx
 cases hss
 cases hv with
 | mp _ b hN hr =>
 have hrep := hi.sat.rep mid _ hb hN
 rw [hr] at hrep
 cases hrep with
 | mapS _ _ _ _ _ es _ hb' hmo htm hst hes =>
 obtain ⟨e0, he0, hk0⟩ := hmo.has v hd
 obtain ⟨j, hj⟩ := Array.mem_iff_getElem?.1 he0
 have hother : ∀ (i : Nat) (e : MapEntry), es[i]? = some e → i ≠ j → e.key ≠ v := fun i e hi' hne hk => hne (hmo.once i j e e0 hi' hj (hk.trans hk0.symm))
 have hfv : keyFit ag ls v = true := by rw [← hk0]; exact hmo.fits e0 he0
 have hself : eqK v v = true := (eqK_iff hki hfv hfv).2 rfl
 have hkeys : ∀ (i : Nat) (e : MapEntry), (es.modify j fun e => { e with val := y })[i]? = some e → ∃ e1, es[i]? = some e1 ∧ e.key = e1.key ∧ e.born = e1.born ∧ ((i = j ∧ e.val = y) ∨ (i ≠ j ∧ e = e1)) := fun i e he => by
  rw [modify_get] at he
  simp only [Option.map_eq_some_iff] at he
  obtain ⟨e1, h1, rfl⟩ := he
  refine ⟨e1, h1, ?_⟩
  split
  ·rename_i e'; exact ⟨rfl, rfl, .inl ⟨e', rfl⟩⟩
  ·rename_i e'; exact ⟨rfl, rfl, .inr ⟨e', rfl⟩⟩
 have hmo' : MapOf (keyFit ag ls) dom (es.modify j fun e => { e with val := y }) := by
  refine ⟨fun i i' e f he hf hkk => ?_, fun e he => ?_, fun e he => ?_, fun k hk => ?_⟩
  ·obtain ⟨e1, h1, h2, _⟩ := hkeys i e he
   obtain ⟨f1, h3, h4, _⟩ := hkeys i' f hf
   exact hmo.once i i' e1 f1 h1 h3 (by rw [← h2, ← h4]; exact hkk)
  ·obtain ⟨i, hi'⟩ := Array.mem_iff_getElem?.1 he
   obtain ⟨e1, h1, h2, _⟩ := hkeys i e hi'
   rw [h2]; exact hmo.fits e1 (Array.mem_of_getElem? h1)
  ·obtain ⟨i, hi'⟩ := Array.mem_iff_getElem?.1 he
   obtain ⟨e1, h1, h2, _⟩ := hkeys i e hi'
   rw [h2]; exact hmo.doms e1 (Array.mem_of_getElem? h1)
  ·obtain ⟨e1, he1, hk1⟩ := hmo.has k hk
   obtain ⟨i, hi'⟩ := Array.mem_iff_getElem?.1 he1
   refine ⟨if i = j then { e1 with val := y } else e1, Array.mem_of_getElem? (i := i) (by rw [modify_get, hi']; rfl), ?_⟩
   split <;> exact hk1
 have htm' : Born (es.modify j fun e => { e with val := y }) clk := by
  refine ⟨fun e he => ?_, fun i i' e f he hf hkk => ?_⟩
  ·obtain ⟨i, hi'⟩ := Array.mem_iff_getElem?.1 he
   obtain ⟨e1, h1, _, h2, _⟩ := hkeys i e hi'
   rw [h2]; exact htm.lt e1 (Array.mem_of_getElem? h1)
  ·obtain ⟨e1, h1, _, h2, _⟩ := hkeys i e he
   obtain ⟨f1, h3, _, h4, _⟩ := hkeys i' f hf
   exact htm.once i i' e1 f1 h1 h3 (by rw [← h2, ← h4]; exact hkk)
 have s1 : Step base okc r (· < st.nid) st.hp w r (· < st.nid) (setBlk st.hp mid (.map (keyFit ag ls) dom (putGet get v (env (look st.fr) x)))) { w with heap := w.heap.setIfInBounds b (.map (es.modify j fun e => { e with val := y }) clk) } :=
  put_step hi.sat hb hN hr hb' (fun _ _ _ => by simp) (.map (es.modify j fun e => { e with val := y }) clk) _ fun G' w' hw' hrep => .map _ _ _ b _ clk hw' hmo' htm' fun e' he' => by
   obtain ⟨i, hi'⟩ := Array.mem_iff_getElem?.1 he'
   obtain ⟨e1, h1, h2, _, h3 | h3⟩ := hkeys i e' hi'
   ·obtain ⟨rfl, h3⟩ := h3
    rw [hj] at h1; cases h1
    rw [h2, h3, hk0]
    simp only [putGet, hself, svIte, if_true]
    exact hrep _ _ hxx
   ·obtain ⟨hne, rfl⟩ := h3
    have : eqK v e'.key = false := by
     cases hq : eqK v e'.key with
     | false => rfl
     | true => exact absurd (eqK_eq hq).symm (hother i e' h1 hne)
    simp only [putGet, this, svIte, Bool.false_eq_true, if_false]
    exact hrep _ _ (hes e' (Array.mem_of_getElem? h1))
 have hi1 : InvR O base okc ns st.nid r outs ⟨st.fr, setBlk st.hp mid (.map (keyFit ag ls) dom (putGet get v (env (look st.fr) x))), st.nid⟩ a { w with heap := w.heap.setIfInBounds b (.map (es.modify j fun e => { e with val := y }) clk) } :=
  hi.step s1 (keys_set hb hi.keys) (Nat.le_refl _) (d := none) (fun t ht => by cases ht) (.top undef)
 refine ⟨_, ?_, ⟨st.fr, setBlk st.hp mid _, st.nid⟩, r, h, Nat.le_refl _, hi1⟩
 obtain ⟨dst, op, type, pos, aft, guard⟩ := o
 simp only [] at ho; subst ho
 simp only [execOp, hex, hes', hexx]
 have hobj : (getObj b).run P w = .ok (.map es clk) w := by simp [getObj, Sem.run, hb']
 have hset : ∀ o, (setObj b o).run P w = .ok () { w with heap := w.heap.setIfInBounds b o } := fun o => by simp [setObj, Sem.run, hb']
 have hidx := findIdx_one htm hj
 rw [hst e0 he0, hk0] at hidx
 simp [Instr.entryStore, Sem.run_bind, Result.andThen_ok, hobj, asInt, asIntOf, hidx, hset, Sem.run_pure]
end
end Go.Sx
end
section
set_option linter.unusedVariables false
set_option linter.unusedSimpArgs false
namespace Go.Sx
open Go.RowKit Go.ChangeShapes Go.WideShapes Go.ChangeAt
section
variable {H : Type} {enc : TypeId × Value → H} {P : Program}
theorem trodAll_stays (hl : laidOutB P = true) {W W' : World} {sp : Nat → Bool} : ∀ {ts : List TypeId} {vs : List Value} {ds : List (DataW H)} {ps : List MemPlace},
  (ts.all fun t => P.readableRec t && decide (t < P.types.size)) = true → DataW.TrodAll enc P W 0 (fun _ => true) true ts vs ds ps → (∀ p ∈ ps, W.sameAt W' p) → (∀ p ∈ ps, sp p.block = true) → DataW.TrodAll enc P W' 0 sp true ts vs ds ps
 | [], vs, ds, ps, _, h, _, _ => by
  obtain ⟨rfl, rfl, rfl⟩ := trodAll_nil h
  simp [DataW.TrodAll]
 | t :: ts, vs, ds, ps, ha, h, hs, hp => by
  simp only [List.all_cons, Bool.and_eq_true, decide_eq_true_eq] at ha
  obtain ⟨v, vs, d, ds, p, q, rfl, rfl, rfl, h1, h2⟩ := trodAll_cons h
  exact ⟨p, q, WideElems.Trod_stays hl ha.1.1 ha.1.2 h1 (fun x hx => hs x (by simp [hx])) (fun x hx => hp x (by simp [hx])),
   trodAll_stays hl ha.2 h2 (fun x hx => hs x (by simp [hx])) (fun x hx => hp x (by simp [hx])), rfl⟩
theorem law_post {f : Func} {s : ChangeSpec} {W W' : World} {args : Array Value} {ds : List (DataW H)} {before : List MemPlace} {t : TypeId} (hl : laidOutB P = true)
  (hr : (f.params.toList.all fun t => P.readableRec t && decide (t < P.types.size)) = true) (hrt : f.resultTypes = #[t]) (hut : P.underlying t = some .bool) (hv : s.vars = [])
  (hs : s.fn H ds = { results := [.lit (.bool true)], args := ds }) (hW : DataW.Whole enc P f.params.toList s.vars false W args.toList ds [] before) (hb : Below W.heap.size W W') :
  s.post enc P f false true false false W args (.bool true) W' := by
 have hlt : ∀ p ∈ before, p.block < W.heap.size := fun p hp => by simpa using hW.lt p hp
 have hfn : (s.fn H (ds ++ [])).results = [.lit (.bool true)] ∧ (s.fn H (ds ++ [])).args = ds ∧ (s.fn H (ds ++ [])).vars = [] := by rw [List.append_nil, hs]; exact ⟨rfl, rfl, rfl⟩
 have hres : ∀ (b : Nat) (sp : Nat → Bool) (hd : Bool), DataW.TrodAll enc P W' b sp hd f.resultTypes.toList ((Value.bool true).resultList f.resultTypes.size) (s.fn H (ds ++ [])).results [] := fun b sp hd => by
  rw [hfn.1, hrt]
  exact trodAll_cons_mk (shut_bool hut _) trodAll_mk0
 have hW' := hW
 obtain ⟨p, q, hA, hV, rfl, hz, hn⟩ := hW
 rw [hv] at hV
 obtain ⟨_, rfl⟩ := trodVars_none hV
 have hargs : ∀ sp : Nat → Bool, (∀ x ∈ p, sp x.block = true) → DataW.TrodAll enc P W' 0 sp true f.params.toList args.toList (s.fn H (ds ++ [])).args p := fun sp hsp => by
  rw [hfn.2.1]
  exact trodAll_stays hl hr hA (fun x hx => hb.same (hlt x (by simpa using hx))) hsp
 have hold : ∀ x ∈ p, (fun b => decide (b < W.heap.size)) x.block = true := fun x hx => by simpa using hlt x (by simpa using hx)
 refine ⟨ds, [], p ++ [], [], p, [], hW', hres _ _ _, hargs _ hold, ?_, World.keptBut_mono (fun x hx => ⟨hx, .inr (.inl (by simpa using hx))⟩) (hb.frame _), fun h => by cases h⟩
 rw [hfn.2.2, hv]; simp [DataW.TrodVars]
end
theorem cell_lt {w : World} {b o : Nat} {v : Value} (h : w.cell? ⟨b, o, none⟩ = some v) : b < w.heap.size := by
 unfold World.cell? at h
 split at h
 ·rename_i hb
  exact (Array.getElem?_eq_some_iff.1 hb).1
 ·cases h
abbrev Gin (w : World) : Bool → Nat → Prop := fun _ b => True ∧ b < w.heap.size
section
variable {H : Type} {enc : TypeId × Value → H} {P : Program} {w : World}
def Rd (enc : TypeId × Value → H) (P : Program) (w : World) (t : TypeId) (k : Nat) {α : Type} (Q : α → Prop) (sv : α → Nat → SV) : Prop :=
 ∀ fuel cs x, DataW.trod enc P w 0 (fun _ => true) true fuel t cs = some x → ∃ a, Q a ∧ cs.length = k ∧ ∀ j, j < k → Rep noR noN (Gin w) w (sv a j) (cs.getD j undef)
theorem inK_wf {k : IntKind} {n : Int} (h : (Lit.int k n).wf = true) : InK k n := by
 cases k <;> simp [Lit.wf, IntKind.min, IntKind.max, IntKind.signed, IntKind.bits] at h <;> simp only [InK] <;> omega
theorem Rd.int {t : TypeId} {k : IntKind} (ht : P.underlying t = some (.int k)) : Rd enc P w t 1 (fun n : Int => InK k n) (fun n _ => .val (.int k n)) := fun fuel cs x h => by
 obtain ⟨n, rfl, _, hw⟩ := DataW.trod_int ht h
 refine ⟨n, inK_wf hw, rfl, fun j hj => ?_⟩
 have : j = 0 := by omega
 subst this
 exact .val _
theorem Rd.bool {t : TypeId} (ht : P.underlying t = some .bool) : Rd enc P w t 1 (fun _ : Bool => True) (fun b _ => .val (.bool b)) := fun fuel cs x h => by
 obtain ⟨b, rfl, _⟩ := DataW.trod_bool ht h
 refine ⟨b, trivial, rfl, fun j hj => ?_⟩
 have : j = 0 := by omega
 subst this
 exact .val _
theorem Rd.slice {t e : TypeId} {k : Nat} {α : Type} [Inhabited α] {Q : α → Prop} {sv : α → Nat → SV} (ht : P.underlying t = some (.slice e)) (hk : P.cellsOf e = k) (h0 : 0 < k) (he : Rd enc P w e k Q sv) :
  Rd enc P w t 1 (fun x : Nat × (Nat → α) => x.1 ≤ maxLen ∧ ∀ i, i < x.1 → Q (x.2 i)) (fun x _ => .arr false false x.1 k (fun i j => sv (x.2 i) j)) := fun fuel cs x h => by
 rcases Go.Deep.open_slice ht h with ⟨rfl, _⟩ | ⟨a, len, cap, m, n, D, Pl, rfl, hb, hl, hm, hmm, rfl, hx⟩
 ·refine ⟨(0, fun _ => default), ⟨by simp, fun i hi => by omega⟩, rfl, fun j hj => ?_⟩
  have : j = 0 := by omega
  subst this
  exact .arrNil _ _ _ _ _ _ (by simp)
 ·have hm' : m = cap := by simpa using hmm
  subst hm'
  rw [hk] at hx
  have hel : ∀ i, i < len → ∃ (u : α), Q u ∧ ∀ j, j < k → ∃ v, w.cell? ((a.add (i * k)).add j) = some v ∧ Rep noR noN (Gin w) w (sv u j) v := fun i hi => by
   obtain ⟨cs', h1, h2⟩ := hx i (by omega)
   obtain ⟨_, hlen, hat⟩ := World.cells?_some h1
   obtain ⟨u, hu, hl', hrep⟩ := he _ _ _ h2
   refine ⟨u, hu, fun j hj => ⟨cs'.getD j undef, ?_, hrep j hj⟩⟩
   rw [hat j hj]
   simp [hlen, hj]
  have hspot : len ≠ 0 → a.spot = none := fun hne => by
   obtain ⟨u, _, hu⟩ := hel 0 (by omega)
   obtain ⟨v, hv, _⟩ := hu 0 h0
   simpa [Addr.add] using World.cell?_spot hv
  by_cases hne : len = 0
  ·subst hne
   refine ⟨(0, fun _ => default), ⟨by simp, fun i hi => by omega⟩, rfl, fun j hj => ?_⟩
   have : j = 0 := by omega
   subst this
   exact .arrNil _ _ _ _ _ _ (by simp)
  ·have hs := hspot hne
   obtain ⟨b, off, spot⟩ := a
   dsimp only at hs
   subst hs
   obtain ⟨U, hU⟩ := Go.Deep.choose_lt (α := α) (p := fun i u => Q u ∧ ∀ j, j < k → ∃ v, w.cell? (((⟨b, off, none⟩ : Addr).add (i * k)).add j) = some v ∧ Rep noR noN (Gin w) w (sv u j) v) hel
   refine ⟨(len, U), ⟨by show len ≤ maxLen; omega, fun i hi => (hU i hi).1⟩, rfl, fun j hj => ?_⟩
   have : j = 0 := by omega
   subst this
   have hcell : ∀ i j, i < len → j < k → ∃ v, w.cell? ⟨b, off + (i * k + j), none⟩ = some v ∧ Rep noR noN (Gin w) w (sv (U i) j) v := fun i j hi hj => by
    have := (hU i hi).2 j hj
    rwa [addr_add, addr_add, Nat.add_assoc] at this
   refine .arr false false len k _ b off m (fun i j => (w.cell? ⟨b, off + (i * k + j), none⟩).getD undef) ⟨trivial, ?_⟩ (by simp) hl (fun i j hi hj => ?_) (fun i j hi hj => ?_)
   ·obtain ⟨v, hv, _⟩ := hcell 0 0 (by omega) h0
    exact cell_lt hv
   ·obtain ⟨v, hv, _⟩ := hcell i j hi hj
    rw [hv]; rfl
   ·obtain ⟨v, hv, hr⟩ := hcell i j hi hj
    rw [hv]; exact hr
theorem Rd.map {t : TypeId} {k : Nat} {α β : Type} {Q : α → Prop} {sv : α → Nat → SV} {Q' : β → Prop} {sv' : β → Nat → SV} (h : Rd enc P w t k Q sv) (f : α → β) (hf : ∀ a, Q a → Q' (f a) ∧ ∀ j, j < k → sv' (f a) j = sv a j) : Rd enc P w t k Q' sv' := fun fuel cs x hx => by
 obtain ⟨a, ha, hl, hr⟩ := h fuel cs x hx
 obtain ⟨h1, h2⟩ := hf a ha
 exact ⟨f a, h1, hl, fun j hj => by rw [h2 j hj]; exact hr j hj⟩
def RdF (enc : TypeId × Value → H) (P : Program) (w : World) (fs : List Field) {α : Type} (Q : α → Prop) (sv : α → Nat → SV) : Prop :=
 ∀ (n : Nat) (cs : List Value), (∀ f, f ∈ fs → ∃ y, DataW.trod enc P w 0 (fun _ => true) true n f.type ((cs.drop f.offset).take (P.cellsOf f.type)) = some y) →
  ∃ a, Q a ∧ ∀ f, f ∈ fs → ∀ j, f.offset ≤ j → j < f.offset + P.cellsOf f.type → Rep noR noN (Gin w) w (sv a j) (cs.getD j undef)
theorem RdF.nil : RdF enc P w [] (fun _ : Unit => True) (fun _ _ => .top) := fun n cs _ => ⟨(), trivial, fun f hf => by cases hf⟩
theorem RdF.cons {f : Field} {fs : List Field} {α β : Type} {Q : α → Prop} {sv : α → Nat → SV} {Q' : β → Prop} {sv' : β → Nat → SV} {k o : Nat} (h : Rd enc P w f.type k Q sv) (hk : P.cellsOf f.type = k) (ho : f.offset = o) (hs : RdF enc P w fs Q' sv') (hlt : ∀ g, g ∈ fs → o + k ≤ g.offset) :
  RdF enc P w (f :: fs) (fun x : α × β => Q x.1 ∧ Q' x.2) (fun x j => if j < o + k then sv x.1 (j - o) else sv' x.2 j) := fun n cs hc => by
 obtain ⟨y, hy⟩ := hc f (by simp)
 obtain ⟨a, ha, hl, hr⟩ := h _ _ _ hy
 obtain ⟨b, hb, hr'⟩ := hs n cs fun g hg => hc g (by simp [hg])
 refine ⟨(a, b), ⟨ha, hb⟩, fun g hg j h1 h2 => ?_⟩
 by_cases hj : j < o + k
 ·simp only [hj, if_true]
  have hg' : g = f ∨ P.cellsOf g.type = 0 ∨ True := .inr (.inr trivial)
  rcases List.mem_cons.1 hg with rfl | hg
  ·have := hr (j - o) (by omega)
   rw [List.getD_eq_getElem?_getD, List.getElem?_take, if_pos (by omega), List.getElem?_drop] at this
   rw [List.getD_eq_getElem?_getD]
   have e : g.offset + (j - o) = j := by omega
   rwa [e] at this
  ·have := hlt g hg
   omega
 ·simp only [hj, if_false]
  rcases List.mem_cons.1 hg with rfl | hg
  ·omega
  ·exact hr' g hg j h1 h2
theorem Rd.struct {t : TypeId} {k : Nat} {fs : Array Field} {α : Type} {Q : α → Prop} {sv : α → Nat → SV} (ht : P.underlying t = some (.struct fs)) (hk : P.cellsOf t = k) (hf : RdF enc P w fs.toList Q sv)
  (hcov : ((List.range k).all fun j => fs.toList.any fun f => decide (f.offset ≤ j) && decide (j < f.offset + P.cellsOf f.type)) = true) : Rd enc P w t k Q sv := fun fuel cs x h => by
 obtain ⟨xs, n, _, _, hl, hlen, hat⟩ := DataW.trod_struct ht h
 obtain ⟨a, ha, hr⟩ := hf n cs fun f hf => by
  obtain ⟨i, hi, rfl⟩ := List.mem_iff_getElem.1 hf
  have := hat i fs.toList[i] (by rw [← Array.getElem?_toList]; exact List.getElem?_eq_getElem hi)
  rw [this]
  have hi' : i < xs.length := by simpa [hlen] using hi
  exact ⟨xs[i], List.getElem?_eq_getElem hi'⟩
 refine ⟨a, ha, hl.trans hk, fun j hj => ?_⟩
 have := (List.all_eq_true.1 hcov) j (by simpa using hj)
 obtain ⟨f, hf', hc⟩ := List.any_eq_true.1 this
 simp only [Bool.and_eq_true, decide_eq_true_eq] at hc
 exact hr f hf' j hc.1 hc.2
theorem Rd.array {t e : TypeId} {n k : Nat} {α : Type} [Inhabited α] {Q : α → Prop} {sv : α → Nat → SV} (ht : P.underlying t = some (.array n e)) (hk : P.cellsOf e = k) (h0 : 0 < k) (hkt : P.cellsOf t = n * k) (he : Rd enc P w e k Q sv) :
  Rd enc P w t (n * k) (fun u : Nat → α => ∀ i, i < n → Q (u i)) (fun u j => sv (u (j / k)) (j % k)) := fun fuel cs x h => by
 obtain ⟨xs, m, _, _, hl, hlen, hat⟩ := DataW.trod_array ht h
 rw [hk] at hat
 have hel : ∀ i, i < n → ∃ (u : α), Q u ∧ ∀ j, j < k → Rep noR noN (Gin w) w (sv u j) (cs.getD (i * k + j) undef) := fun i hi => by
  have h1 := hat i hi
  rw [List.getElem?_eq_getElem (by omega)] at h1
  obtain ⟨u, hu, hlu, hr⟩ := he _ _ _ h1
  refine ⟨u, hu, fun j hj => ?_⟩
  have := hr j hj
  rwa [List.getD_eq_getElem?_getD, List.getElem?_take, if_pos (by omega), List.getElem?_drop, ← List.getD_eq_getElem?_getD] at this
 obtain ⟨U, hU⟩ := Go.Deep.choose_lt (α := α) (p := fun i u => Q u ∧ ∀ j, j < k → Rep noR noN (Gin w) w (sv u j) (cs.getD (i * k + j) undef)) hel
 refine ⟨U, fun i hi => (hU i hi).1, hl.trans hkt, fun j hj => ?_⟩
 have hjk : j / k < n := Nat.div_lt_of_lt_mul (by rwa [Nat.mul_comm] at hj)
 have := (hU (j / k) hjk).2 (j % k) (Nat.mod_lt _ h0)
 have e : j / k * k + j % k = j := by rw [Nat.mul_comm]; exact Nat.div_add_mod j k
 rwa [e] at this
theorem Rd.one {t : TypeId} {α : Type} {Q : α → Prop} {sv : α → Nat → SV} (h : Rd enc P w t 1 Q sv) {v : Value} {d : DataW H} {p : List MemPlace} (hv : v.cells = #[v]) (ht : DataW.Trod enc P w 0 (fun _ => true) true t v d p) : ∃ a, Q a ∧ Rep noR noN (Gin w) w (sv a 0) v := by
 obtain ⟨fuel, hf⟩ := ht
 obtain ⟨a, ha, _, hr⟩ := h _ _ _ hf
 refine ⟨a, ha, ?_⟩
 have := hr 0 (by omega)
 rw [hv] at this
 exact this
theorem Rd.agg {t : TypeId} {k : Nat} {α : Type} {Q : α → Prop} {sv : α → Nat → SV} (h : Rd enc P w t k Q sv) {v : Value} {d : DataW H} {p : List MemPlace} {cs : Array Value} (hv : v = .agg cs) (ht : DataW.Trod enc P w 0 (fun _ => true) true t v d p) : ∃ a, Q a ∧ Rep noR noN (Gin w) w (.agg ((List.range k).map (sv a))) v := by
 subst hv
 obtain ⟨fuel, hf⟩ := ht
 obtain ⟨a, ha, hl, hr⟩ := h _ _ _ hf
 refine ⟨a, ha, .agg _ _ (by simpa [Value.cells] using hl.symm) fun i sv' hi => ?_⟩
 simp only [List.getElem?_map, List.getElem?_range] at hi
 have hik : i < k := by
  by_cases hik : i < k
  ·exact hik
  ·simp [hik] at hi
 rw [List.getElem?_range hik] at hi
 simp only [Option.map_some, Option.some.injEq] at hi
 subst hi
 have := hr i hik
 simpa [Value.cells] using this
def Reps (w : World) (l : List SV) (vs : List Value) : Prop := l.length = vs.length ∧ ∀ (i : Nat) (sv : SV), l[i]? = some sv → Rep noR noN (Gin w) w sv (vs.getD i undef)
theorem Reps.nil : Reps w [] [] := ⟨rfl, fun i sv h => by simp at h⟩
theorem Reps.cons {a : SV} {v : Value} {l : List SV} {vs : List Value} (h : Rep noR noN (Gin w) w a v) (hs : Reps w l vs) : Reps w (a :: l) (v :: vs) :=
 ⟨by simp [hs.1], fun i sv hi => by
  cases i with
  | zero => simp at hi; subst hi; exact h
  | succ i => simpa using hs.2 i sv (by simpa using hi)⟩
theorem law_calls {f : FuncId} {l : List SV} {args : Array Value} (hc : Contract P f l (.val (.bool true))) (h : Reps w l args.toList) :
  Calls P f args w fun e w' => e = .returned (.bool true) ∧ Below w.heap.size w w' :=
 (hc.2 (fun _ => True) w args (by simpa using h.1) (fun i sv hi => by
  have := h.2 i sv hi
  rwa [List.getD_eq_getElem?_getD, Array.getElem?_toList, ← Array.getD_eq_getD_getElem?] at this)).mono fun e w' ⟨v, he, hb, hv⟩ => by
  cases hv
  exact ⟨he, hb⟩
end
end Go.Sx
end
section
set_option linter.unusedVariables false
set_option linter.unusedSimpArgs false
namespace Go.Sx
open Go.RowKit
section
variable {P : Program} {O : Ctx} {base : World} {okc : Nat → Prop} {ns : Nat} {outs : Outs}
theorem InvR.pushF (far : Nat → List (Nat × Nat)) {r : Nat → Option Nat} {k : Nat} {st : St} {a : Act} {w : World} (h : InvR O base okc ns k r outs st a w) (rcd : Option Loop) (hrc : ∀ L, rcd = some L → L.tmps = a.tmps) (rnd : Bool) {fr : List (Nat × SV)} {a2 : Act} {n2 : Nat} {nid : Nat}
  (hfr : ∀ i, Rep r (· < k) (Gd base okc r (· < k) st.hp w) w (look fr i) (a2.tmps.getD i undef)) (hs : a2.tmps.size = n2) (hd : a2.defers = []) :
  InvR ⟨⟨st.fr, rcd, ns, k⟩ :: O.fs, k, rnd, far⟩ base okc n2 k r ⟨a :: outs.as, r⟩ ⟨fr, st.hp, nid⟩ a2 w := by
 refine ⟨h.sat, h.keys, hfr, hs, Nat.le_refl _, ⟨h.fr, Nat.le_refl _, h.size, hrc, h.out.mono h.lo fun n hn sv v hv => hv⟩, fun _ _ => rfl, ?_⟩
 obtain ⟨Ds, h1, h2, h3⟩ := h.defers
 exact ⟨Ds, by simpa [allD, hd] using h1, h2, h3⟩
theorem InvR.popF {far : Nat → List (Nat × Nat)} {r r0 : Nat → Option Nat} {k k0 : Nat} {st st0 : St} {fr : List (Nat × SV)} {a a0 a2 : Act} {w w0 : World} {rcd : Option Loop} {rnd : Bool} {n2 n0 : Nat} {nid : Nat}
  (h : InvR ⟨⟨fr, rcd, ns, k0⟩ :: O.fs, k0, rnd, far⟩ base okc n2 k r ⟨a :: outs.as, r0⟩ st a2 w) (h0 : InvR O base okc n0 k0 r0 outs st0 a0 w0) :
  InvR O base okc ns k r outs ⟨fr, st.hp, nid⟩ a w := by
 obtain ⟨o1, o2, o3, o4, o5⟩ := h.out
 refine ⟨h.sat, h.keys, fun i => (o1 i).mono (fun _ _ => rfl) (fun i hi => Nat.lt_of_lt_of_le hi h.lo) (fun _ _ hg => ⟨hg, rfl⟩) (Shapes.refl _), o3, Nat.le_trans h0.lo h.lo, o5.low h0.out, fun id hid => (h.rfix id (Nat.lt_of_lt_of_le hid h0.lo)).trans (h0.rfix id hid), ?_⟩
 obtain ⟨Ds, h1, h2, h3⟩ := h.defers
 unfold allD at h1
 simp only [List.map_cons, List.flatten_cons] at h1
 obtain ⟨l1, l2, rfl, e1, e2⟩ := List.append_eq_map_iff.1 h1
 exact ⟨l2, e2.symm, (List.nodup_append.1 h2).2.1, fun D hD => h3 D (by simp [hD])⟩
def RecOkF (far : Nat → List (Nat × Nat)) (fs : List Fr) (L : Loop) (fr : List (Nat × SV)) (ps : List Tmp) (A B : Code) : Prop :=
 ∃ ns lo rest, fs = ⟨fr, some L, ns, lo⟩ :: rest ∧ codeOkF far ns A = true ∧ codeOkF far ns B = true ∧ ps.all (fun t => decide (t < ns)) = true ∧ L.params = ps.toArray ∧ L.assign = A ∧ L.body = B
theorem yield_vcF {far : Nat → List (Nat × Nat)} (hm : P.follows .mixedOrders = true) {y : Nat} {args : List SV} {st : St} {K : St → SV → Prop} {L : Loop} {fr : List (Nat × SV)} {ps : List Tmp} {A B : Code} (R : RecOkF far O.fs L fr ps A B) (hb : blk st.hp y = some (.loop L .ready)) (hlen : args.length = ps.length)
  (h : ∀ out : List Fr, vc P ⟨out, st.nid, true, far⟩ A ⟨putPs fr ps args, st.hp, st.nid⟩ (roundMid P ⟨out, st.nid, true, far⟩ y L B (roundEnd y L st.fr K))) : YieldVC P O y args st K := by
 obtain ⟨nc, lo, rest, hfs, hcA, hcB, hps, hpar, hass, hbody⟩ := R
 intro base okc ns r outs a w vs l h0 hl ha hy hr
 obtain ⟨hheap, -⟩ := rec_turn (s' := .ready) h0 hb hr
 have hrun := run_yield (P := P) (args := vs) hheap (by show vs.size = L.params.size; rw [hpar, ← hl, hlen]; simp)
 refine ⟨_, _, _, _, hrun, ?_⟩
 have hout := h0.out
 rw [hfs] at hout
 obtain ⟨ac, outs', hac, o1, o2, o3, o4, o5⟩ : ∃ ac outs', outs.as = ac :: outs' ∧ (∀ i, Rep r (· < lo) (Gd base okc r (· < st.nid) st.hp w) w (look fr i) (ac.tmps.getD i undef)) ∧ lo ≤ O.lo ∧ ac.tmps.size = nc ∧ (∀ L', some L = some L' → L'.tmps = ac.tmps) ∧ OutOk r O.lo (Gd base okc r (· < st.nid) st.hp w) w rest outs' := by
  cases hA : outs.as with
  | nil => rw [hA] at hout; exact hout.elim
  | cons ac outs' => rw [hA] at hout; exact ⟨ac, outs', rfl, hout⟩
 have htm : L.tmps = ac.tmps := o4 L rfl
 obtain ⟨q1, q2⟩ := putPs_rep (r := r) (N := (· < st.nid)) (G := Gd base okc r (· < st.nid) st.hp w) (w := w) (ns := nc) (ps := ps) (args := args) (vs := vs.toList) (fr := fr) (tmps := L.tmps)
  (fun i => by rw [htm]; exact (o1 i).mono (fun _ _ => rfl) (fun i hi => Nat.lt_of_lt_of_le hi (Nat.le_trans o2 h0.lo)) (fun _ _ hg => ⟨hg, rfl⟩) (Shapes.refl _)) (by rw [htm]; exact o3) hps (by simpa using hl) (fun i sv hi => by simpa using ha i sv hi)
 have htmps : (L.params.zip vs).foldl (fun tmps (t, a) => tmps.setIfInBounds t a) L.tmps = (ps.zip vs.toList).foldl (fun tmps (t, a) => tmps.setIfInBounds t a) L.tmps := by
  rw [hpar, ← Array.foldl_toList]
  simp
 show RoundIn Fence.wide 0 P l L.fn ((L.params.zip vs).foldl (fun tmps (t, a) => tmps.setIfInBounds t a) L.tmps) L.assign L.body w _
 rw [htmps, hass, hbody]
 refine roundIn_of_wpIn (F := Fence.wide) trivial ?_
 have hI := h0.pushF far none (fun _ h => by cases h) true (a2 := { tmps := (ps.zip vs.toList).foldl (fun tmps (t, a) => tmps.setIfInBounds t a) L.tmps, defers := [] }) (n2 := nc) (nid := st.nid) q1 q2 rfl
 refine vc_ok hm (ro := some l) (O := ⟨⟨st.fr, none, ns, st.nid⟩ :: O.fs, st.nid, true, far⟩) rfl A _ _ _ _ _ hcA (h _) ⟨r, hI⟩ fun e st1 a1 w1 hk hi1 => ?_
 cases e with
 | exit i => exact hk.elim
 | ret => exact hk.elim
 | normal =>
  obtain ⟨hb1, hvc⟩ := hk
  have hb1 := isReady_eq hb1
  obtain ⟨r1, hi1⟩ := hi1
  have e1 : r1 y = some l := (hi1.rfix y hy).trans hr
  obtain ⟨g1, t1⟩ := rec_turn (s' := .busy) hi1 hb1 e1
  refine ⟨_, run_beginRound g1 rfl, ?_⟩
  refine vc_ok hm (ro := some l) (O := ⟨⟨st.fr, none, ns, st.nid⟩ :: O.fs, st.nid, true, far⟩) rfl B _ _ _ _ _ hcB hvc ⟨r1, t1⟩ fun e st2 a2 w2 hk2 hi2 => ?_
  obtain ⟨hb2, hk2⟩ := hk2
  have hb2 := isBusy_eq hb2
  obtain ⟨r2, hi2⟩ := hi2
  have e2 : r2 y = some l := (hi2.rfix y hy).trans hr
  have fin : ∀ (jump : Option Code) (s' : RSt), s'.state = (if jump.isNone then LoopState.ready else .done) → s'.pend = jump → K ⟨st.fr, setBlk st2.hp y (.loop L s'), st2.nid⟩ (.val (.bool jump.isNone)) →
    ∃ v w', (Instr.endRound l jump).run P w2 = .ok v w' ∧ ∃ v' st' r' res, Ending.returned v = .returned v' ∧ K st' res ∧ st.nid ≤ st'.nid ∧ InvR O base okc ns st'.nid r' outs st' a w' ∧ Rep r' (· < st'.nid) (Gd base okc r' (· < st'.nid) st'.hp w') w' res v' := by
   intro jump s' hs1 hs2 hK
   obtain ⟨g2, t2⟩ := rec_turn (s' := s') hi2 hb2 e2
   refine ⟨_, _, run_endRound jump g2, _, ⟨st.fr, setBlk st2.hp y (.loop L s'), st2.nid⟩, r2, _, rfl, hK, hi2.lo, ?_, .val _⟩
   rw [hs1, hs2] at t2
   exact t2.popF (nid := st2.nid) h0
  cases e with
  | normal => exact fin none .ready rfl rfl hk2
  | ret => exact fin (some .ret) .retd rfl rfl hk2
  | exit i => exact fin (some (.exit i)) (.left i) rfl rfl hk2
set_option maxHeartbeats 1000000 in
theorem range_vcF (hm : P.follows .mixedOrders = true) (hO : O.rnd = false) {x : Operand} {ps : List Tmp} {A B : Code} {st : St} {K : Ex → St → Prop} {gf : FuncId} {caps : List SV} {fn : Func} {c : Code} (hg : env (look st.fr) x = .fn (.func gf) [] caps) (hf : P.funcs[gf]? = some fn) (hb : fn.body = some c)
  (hname : (fn.name == "runtime.NumGoroutine") = false) (hok : codeOk fn.ntmps c = true) (hres : fn.results.toList = []) (hlen : caps.length + 1 ≤ fn.ntmps)
  (h : ∀ (out : List Fr) (L : Loop), RecOkF O.far out L st.fr ps A B → vc P ⟨out, st.nid + 1, false, noFar⟩ c ⟨argFr 0 (.yld st.nid :: caps), (st.nid, .loop L .ready) :: st.hp, st.nid + 1⟩ (rangeEnd st.nid L st.fr K)) : RawVC P O (.rangeFunc x ps.toArray A B) st K := by
 intro base okc ns outs a w ro Q hro hc hinv hQ
 obtain ⟨r, hi⟩ := hinv
 have hro0 : ro = none := by rw [hO] at hro; cases ro <;> simp at hro ⊢
 subst hro0
 simp only [codeOkF, Bool.and_eq_true] at hc
 refine wpIn_rangeFunc fun fn0 _ => ?_
 have hx := hi.env x
 rw [hg] at hx
 generalize hex : a.eval x = u at hx
 cases hx with
 | fn _ _ _ cs ds hl hmm h1 h2 =>
 have hcs : cs = #[] := Array.eq_empty_of_size_eq_zero (by simpa using hl.symm)
 subst hcs
 generalize hW1 : w.alloc (.deferred (some [])) = W1
 have hz1 : W1.heap.size = w.heap.size + 1 := by rw [← hW1]; simp
 have hgrow : Step base okc r (· < st.nid) st.hp w r (· < st.nid) st.hp W1 := by rw [← hW1]; exact hi.sat.grow ((Below.refl _ w).alloc (Nat.le_refl _) _)
 obtain ⟨L, hL⟩ : ∃ L : Loop, L = { state := .ready, pending := none, fn := fn0, tmps := a.tmps, params := ps.toArray, assign := A, body := B, defers := w.heap.size } := ⟨_, rfl⟩
 have hLr : ({ L with state := RSt.ready.state, pending := RSt.ready.pend } : Loop) = L := by rw [hL]; rfl
 have hi1 : InvR O base okc ns st.nid r outs st a W1 := hi.step hgrow hi.keys (Nat.le_refl _) (d := none) (fun t ht => by cases ht) (.top undef)
 have hnew : Step base okc r (· < st.nid) st.hp W1 (upd r st.nid (some W1.heap.size)) (plus (· < st.nid) st.nid) ((st.nid, .loop L .ready) :: st.hp) (W1.alloc (.loop L)) :=
  hi1.sat.new st.nid (by simp) (.loop L) (.loop L .ready) (by simp [blk]) (fun j hj => by simp only [blk]; rw [if_neg (by omega)]) fun r' N' G' _ _ _ _ _ => .loop L .ready _ (by rw [hLr]; exact heap_alloc_at W1 _)
 rw [plus_lt] at hnew
 have hi2 : InvR O base okc ns (st.nid + 1) (upd r st.nid (some W1.heap.size)) outs ⟨st.fr, (st.nid, .loop L .ready) :: st.hp, st.nid⟩ a (W1.alloc (.loop L)) :=
  hi1.step hnew (fun id y hy => by
   simp only [blk] at hy
   split at hy
   ·omega
   ·have := hi1.keys id y hy; omega) (by omega) (d := none) (fun t ht => by cases ht) (.top undef)
 have hD : (W1.alloc (.loop L)).heap[w.heap.size]? = some (.deferred (some [])) := by
  rw [heap_alloc_old _ _ (by omega), ← hW1]; exact heap_alloc_at w _
 have hi3 : InvR O base okc ns (st.nid + 1) (upd r st.nid (some W1.heap.size)) outs ⟨st.fr, (st.nid, .loop L .ready) :: st.hp, st.nid⟩ { a with defers := [cDef w.heap.size] ++ a.defers } (W1.alloc (.loop L)) := by
  refine ⟨hi2.sat, hi2.keys, hi2.fr, hi2.size, hi2.lo, hi2.out, hi2.rfix, ?_⟩
  obtain ⟨Ds, e1, e2, e3⟩ := hi2.defers
  obtain ⟨Ds0, f1, f2, f3⟩ := hi.defers
  have hDs : Ds = Ds0 := by
   have : Ds.map cDef = Ds0.map cDef := by rw [← e1, ← f1]
   exact (List.map_inj_right (fun _ _ => cDef_inj)).1 this
  subst hDs
  refine ⟨w.heap.size :: Ds, by simp [allD] at e1 ⊢; exact e1, List.nodup_cons.2 ⟨fun hin => ?_, e2⟩, fun D hDin => ?_⟩
  ·have := (f3 _ hin).1.1; omega
  ·rcases List.mem_cons.1 hDin with e | e
   ·subst e
    refine ⟨⟨by simp; omega, fun id y hy hid => ?_, ?_⟩, hD⟩
    ·simp only [blk] at hy
     split at hy
     ·rename_i e; subst e
      rw [upd_same]
      intro e; simp only [Option.some.injEq] at e; omega
     ·rename_i e
      rw [upd_other _ e]
      intro e'
      have := hi.sat.lt hy (hi.keys _ _ hy) e'
      omega
    ·simp only [if_true]; exact hi.sat.below.size
   ·exact e3 D e
 obtain ⟨vs, hvs⟩ : ∃ vs : Array Value, vs = #[Value.func (Fn.yield W1.heap.size) #[] #[]] ++ ds := ⟨_, rfl⟩
 have hvsz : vs.size = ds.size + 1 := by rw [hvs]; simp; omega
 have hargs : ∀ (i : Nat) (sv : SV), (SV.yld st.nid :: caps)[i]? = some sv → Rep (upd r st.nid (some W1.heap.size)) (· < st.nid + 1) (Gd base okc (upd r st.nid (some W1.heap.size)) (· < st.nid + 1) ((st.nid, .loop L .ready) :: st.hp) (W1.alloc (.loop L))) (W1.alloc (.loop L)) sv (vs.getD i undef) := by
  intro i sv hi'
  cases i with
  | zero =>
   rw [List.getElem?_cons_zero] at hi'
   cases hi'
   have e : vs.getD 0 undef = Value.func (Fn.yield W1.heap.size) #[] #[] := by
    rw [hvs, Array.getD_eq_getD_getElem?, Array.getElem?_append_left (by simp)]; rfl
   rw [e]
   exact .yld _ _ (Nat.lt_succ_self _) (upd_same _ _ _)
  | succ i =>
   rw [List.getElem?_cons_succ] at hi'
   have e : vs.getD (i + 1) undef = ds.getD i undef := by
    rw [hvs]
    simp only [Array.getD_eq_getD_getElem?]
    rw [Array.getElem?_append_right (by simp)]
    simp
   rw [e]
   exact hnew.rep (hgrow.rep (h2 i sv hi'))
 have hfr := args_fr (args := SV.yld st.nid :: caps) (vs := vs) (n := fn.ntmps) (by rw [hvsz, List.length_cons, hmm]) (by omega) hargs
 have hpush := hi3.push (some L) (fun L' e => by cases e; rw [hL]) false (fr := argFr 0 (.yld st.nid :: caps)) (a2 := { tmps := vs ++ Array.replicate (fn.ntmps - vs.size) undef, defers := [] }) (n2 := fn.ntmps) (nid := st.nid + 1) hfr (by simp; omega) rfl
 refine ⟨w.heap.size + 1, [cDef w.heap.size], W1.alloc (.loop L), { target := .fn (.func gf) ds, args := #[.func (.yield (w.heap.size + 1)) #[] #[]] }, W1.alloc (.loop L), gf,
  vs, W1.alloc (.loop L), ?_, ?_, fun _ _ => trivial, ?_, fun hh => by simp [FR] at hh, ?_⟩
 ·rw [hL, ← hW1]; exact run_enterLoop_outer _ _ _ _ _
 ·simp only [Go.resolve, hex]
  simp [Deferred.ofValue, Act.eval]
 ·rw [hvs, hz1]
  exact run_callFunc hf hb hname _ _
 rw [← hz1]
 refine calls_FR.2 (calls_of_vc hm hf hb hok (O := ⟨⟨st.fr, some L, ns, st.nid + 1⟩ :: O.fs, st.nid + 1, false, noFar⟩) (outs := ⟨_, _⟩) (base := base) (okc := okc) (st0 := ⟨argFr 0 (.yld st.nid :: caps), (st.nid, .loop L .ready) :: st.hp, st.nid + 1⟩) rfl
  (Post := fun st' _ => rangeEnd st.nid L st.fr K .normal st') ⟨_, hpush⟩ ?_ fun st' r' a' w' m us hP hi4 hml hreps => ?_)
 ·have e : (fun (e : Ex) (st' : St) => match e with | .exit _ => False | _ => resultsVC P fn.results.toList st' (fun _ => rangeEnd st.nid L st.fr K .normal st')) = rangeEnd st.nid L st.fr K := by
   funext e st'
   cases e
   ·exact resultsVC_nil hres _ _
   ·rfl
   ·exact resultsVC_nil hres _ _
  have hh := h _ L ⟨ns, st.nid + 1, O.fs, rfl, hc.1.1, hc.1.2, by simpa using hc.2, by rw [hL], by rw [hL], by rw [hL]⟩
  rw [← e] at hh
  exact hh
 ·obtain ⟨s, hbs, hs⟩ := rangeFin_eq hP
  have er : r' st.nid = some W1.heap.size := by
   rw [hi4.rfix st.nid (Nat.lt_succ_self _)]; exact upd_same _ _ _
  obtain ⟨g1, t1⟩ := rec_turn (s' := .over s.pend) hi4 hbs er
  have hback := (t1.forget st.nid).pop (nid := st'.nid) hi3
  have hsame : dropBlk (setBlk st'.hp st.nid (.loop L (.over s.pend))) st.nid = dropBlk st'.hp st.nid := by
   have : ∀ (hp : List (Nat × Blk)) (y : Nat) (x : Blk), dropBlk (setBlk hp y x) y = dropBlk hp y := by
    intro hp y x
    induction hp with
    | nil => rfl
    | cons p hp ih =>
     obtain ⟨i, v⟩ := p
     simp only [setBlk, dropBlk]
     by_cases e : y = i
     ·simp [e, dropBlk]
     ·simp [e, dropBlk, ih]
   exact this _ _ _
  simp only [hsame] at hback
  have hnb : s.state ≠ .busy := by cases s <;> simp [RSt.state] <;> exact hs
  refine ⟨s.pend, _, run_endLoop g1 hnb, ?_⟩
  have fin : ∀ e, K e ⟨st.fr, dropBlk st'.hp st.nid, st'.nid⟩ → Q (toExit e) { a with defers := [cDef w.heap.size] ++ a.defers } (w'.putObj W1.heap.size (.loop { L with state := .exhausted, pending := s.pend })) := fun e hk => hQ e _ _ _ hk ⟨r', hback⟩
  cases s with
  | ready => exact fin .normal hs
  | busy => exact hs.elim
  | retd => exact wpIn_ret (fin .ret hs)
  | left i => exact wpIn_exit (fin (.exit i) hs)
  | over p => exact hs.elim
end
section
variable {P : Program} {O : Ctx} {J : Prop} {j : Tag J}
theorem yieldIT (hm : P.follows .mixedOrders = true) {far : Nat → List (Nat × Nat)} {d : Option Tmp} {id : Nat} {fr : List (Nat × SV)} {hp : List (Nat × Blk)} {K : St → Prop} {g : Tag K} {y : Nat} {args : List SV} {L : Loop} {fr0 : List (Nat × SV)} {ps : List Tmp} {A B : Code} (hJ : J) (R : RecOkF far O.fs L fr0 ps A B) (hb : blk hp y = some (.loop L .ready)) (hlen : args.length = ps.length)
  (h : ∀ out : List Fr, vc P ⟨out, id, true, far⟩ A ⟨putPs fr0 ps args, hp, id⟩ (roundMid P ⟨out, id, true, far⟩ y L B (roundEnd y L fr fun st' res => K (st'.put d res)))) : YieldOr P O j d id fr hp K g y args :=
 ⟨hJ, yield_vcF hm R hb hlen h⟩
theorem rangeIT (hm : P.follows .mixedOrders = true) {fs : List Fr} {lo : Nat} {far : Nat → List (Nat × Nat)} {x : Operand} {ps : List Tmp} {A B : Code} {fr : List (Nat × SV)} {hp : List (Nat × Blk)} {nid : Nat} {K : Ex → St → Prop} {g : Tag K} {gf : FuncId} {caps : List SV} {fn : Func} {c : Code} (hg : env (look fr) x = .fn (.func gf) [] caps) (hf : P.funcs[gf]? = some fn) (hb : fn.body = some c)
  (hname : (fn.name == "runtime.NumGoroutine") = false) (hok : codeOk fn.ntmps c = true) (hres : fn.results.toList = []) (hlen : caps.length + 1 ≤ fn.ntmps)
  (h : ∀ (out : List Fr) (L : Loop), RecOkF far out L fr ps A B → vc P ⟨out, nid + 1, false, noFar⟩ c ⟨argFr 0 (.yld nid :: caps), (nid, .loop L .ready) :: hp, nid + 1⟩ (rangeEnd nid L fr K)) : RawT P ⟨fs, lo, false, far⟩ (.rangeFunc x ps.toArray A B) ⟨fr, hp, nid⟩ K g :=
 range_vcF hm rfl hg hf hb hname hok hres hlen h
def farTwo (n : Nat) (l : List (Nat × Nat)) (m : Nat) (k : List (Nat × Nat)) : Nat → List (Nat × Nat) := fun i => if i = n then l else if i = m then k else []
theorem vc_region2N {fs : List Fr} {lo : Nat} {rnd : Bool} {n m : Nat} {l k : List (Nat × Nat)} (id : Nat) (ops : List Oper) (d : Bool) (st : St) (K : Ex → St → Prop) (h : id ≠ n) (h2 : id ≠ m) : vc P ⟨fs, lo, rnd, farTwo n l m k⟩ (.region id ops.toArray d) st K = opsVC P ⟨fs, lo, rnd, farTwo n l m k⟩ (inlOk d ops = true) (dsts ops) ops 0 st (fun st' => K .normal ⟨st'.fr, st'.hp, st'.nid + ops.length⟩) := by
 have e : farTwo n l m k id = [] := by simp [farTwo, h, h2]
 show (if isHand (farTwo n l m k id) = true then _ else opsVC P _ _ _ _ 0 st (fun st' => FarVC ((farTwo n l m k) id) st' (K .normal ⟨st'.fr, st'.hp, st'.nid + ops.length⟩))) = _
 rw [e]; rfl
theorem vc_region2A {fs : List Fr} {lo : Nat} {rnd : Bool} {x y m : Nat} {l k : List (Nat × Nat)} (n : Nat) (ops : List Oper) (d : Bool) (st : St) (K : Ex → St → Prop) (hxy : x ≠ y) : vc P ⟨fs, lo, rnd, farTwo n ((x, y) :: l) m k⟩ (.region n ops.toArray d) st K = opsVC P ⟨fs, lo, rnd, farTwo n ((x, y) :: l) m k⟩ (inlOk d ops = true) (dsts ops) ops 0 st (fun st' => FarVC ((x, y) :: l) st' (K .normal ⟨st'.fr, st'.hp, st'.nid + ops.length⟩)) := by
 have e : farTwo n ((x, y) :: l) m k n = (x, y) :: l := by simp [farTwo]
 show (if isHand (farTwo n ((x, y) :: l) m k n) = true then _ else opsVC P _ _ _ _ 0 st (fun st' => FarVC ((farTwo n ((x, y) :: l) m k) n) st' (K .normal ⟨st'.fr, st'.hp, st'.nid + ops.length⟩))) = _
 rw [e, if_neg (by simp [isHand, hxy])]
theorem vc_region2B {fs : List Fr} {lo : Nat} {rnd : Bool} {x y n : Nat} {l k : List (Nat × Nat)} (m : Nat) (ops : List Oper) (d : Bool) (st : St) (K : Ex → St → Prop) (h : m ≠ n) (hxy : x ≠ y) : vc P ⟨fs, lo, rnd, farTwo n l m ((x, y) :: k)⟩ (.region m ops.toArray d) st K = opsVC P ⟨fs, lo, rnd, farTwo n l m ((x, y) :: k)⟩ (inlOk d ops = true) (dsts ops) ops 0 st (fun st' => FarVC ((x, y) :: k) st' (K .normal ⟨st'.fr, st'.hp, st'.nid + ops.length⟩)) := by
 have e : farTwo n l m ((x, y) :: k) m = (x, y) :: k := by simp [farTwo, h]
 show (if isHand (farTwo n l m ((x, y) :: k) m) = true then _ else opsVC P _ _ _ _ 0 st (fun st' => FarVC ((farTwo n l m ((x, y) :: k)) m) st' (K .normal ⟨st'.fr, st'.hp, st'.nid + ops.length⟩))) = _
 rw [e, if_neg (by simp [isHand, hxy])]
end
end Go.Sx
end
