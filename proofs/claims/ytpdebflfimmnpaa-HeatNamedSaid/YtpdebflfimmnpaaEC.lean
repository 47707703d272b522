/- The proof engine. -/
import Derived.Scope
import Derived.Test.YtpdebflfimmnpaaEB
section
set_option linter.unusedVariables false
set_option linter.unusedSimpArgs false
namespace Go.Sx
open Go.RowKit
def opTmps (o : Oper) : List Tmp := o.op.operands.toList.filterMap fun | .tmp t => some t | _ => none
def gTmps (ds : List (Option Tmp)) (o : Oper) : List Tmp := match o.guard with | some (g, _) => (nth ds g).toList | none => []
def seen (ds : List (Option Tmp)) (o : Oper) : List Tmp := opTmps o ++ (gTmps ds o ++ o.dst.toList)
def calm : Op → Bool
 | .move _ => true
 | .assign _ => true
 | .pick _ _ _ => true
 | .alloc _ => true
 | .box _ _ => true
 | .load _ _ => true
 | .nilCheck _ => true
 | .binOp _ _ _ _ _ => true
 | .unOp _ _ _ => true
 | .convert _ _ _ => true
 | .makeFunc _ _ _ => true
 | .fieldAddr _ _ _ => true
 | .field _ _ _ => true
 | .indexAddr _ _ _ => true
 | .extract _ _ => true
 | .build _ _ => true
 | .buildSlice _ _ _ => true
 | .makeSlice _ _ _ => true
 | .slice _ _ _ _ _ => true
 | .lookup _ _ _ _ => true
 | .makeMap _ _ => true
 | .index _ _ _ => true
 | .call ⟨.value _, _, _⟩ => true
 | .call ⟨.builtin .len, _, _⟩ => true
 | .call ⟨.builtin .min, _, _⟩ => true
 | .call ⟨.builtin .max, _, _⟩ => true
 | _ => false
def maskOf (ms : List Nat) : List Edge → Nat
 | [] => 0
 | e :: es => if Region.binds .any e = true then maskOf ms es ||| (2 ^ e.on ||| ms.getD e.on 0) else maskOf ms es
def masks (ms : List Nat) : List Oper → List Nat
 | [] => ms
 | o :: rest => masks (ms ++ [maskOf ms o.after.toList]) rest
def edgesIn (i : Nat) : List Edge → Bool
 | [] => true
 | e :: es => (!Region.binds .any e || decide (e.on < i)) && edgesIn i es
def edgesOk : Nat → List Oper → Bool
 | _, [] => true
 | i, o :: rest => edgesIn i o.after.toList && edgesOk (i + 1) rest
def apartOk (ds : List (Option Tmp)) (ms : List Nat) (ops : List Oper) : Bool :=
 (List.range ops.length).all fun j => match ops[j]? with
  | none => true
  | some oj => (List.range j).all fun i => (ms.getD j 0).testBit i || (match nth ds i with | some d => !(seen ds oj).contains d | none => true) && (match nth ds j with | some d => (match ops[i]? with | some oi => !(seen ds oi).contains d | none => true) | none => true)
def calmLen : List Oper → Nat
 | [] => 0
 | o :: rest => if calm o.op = true then calmLen rest + 1 else 0
def plainCall : Op → Bool
 | .call ⟨.value _, _, _⟩ => true
 | _ => false
def callLen : List Oper → Nat
 | [] => 0
 | o :: rest => if (calm o.op && !plainCall o.op) = true then callLen rest + 1 else 0
def tailOk (ms : List Nat) (m n : Nat) : Bool := (List.range n).all fun j => decide (j < m) || decide (ms.getD j 0 = 2 ^ j - 1)
def inlOk (d : Bool) (ops : List Oper) : Bool := !d || tailOk (masks [] ops) (callLen ops) ops.length
def drawOk (ops : List Oper) : Bool :=
 let ms := masks [] ops
 edgesOk 0 ops && apartOk (dsts ops) ms ops && tailOk ms (calmLen ops) ops.length
theorem edgesOk_spec : ∀ {ops : List Oper} {i : Nat}, edgesOk i ops = true → ∀ j o, ops[j]? = some o → ∀ e ∈ o.after, Region.binds .any e = true → e.on < i + j
 | [], i, h, j, o, ho => by simp at ho
 | p :: ops, i, h, j, o, ho => by
  simp only [edgesOk, Bool.and_eq_true] at h
  cases j with
  | zero =>
   simp at ho; subst ho
   intro e he hb
   have key : ∀ (es : List Edge), edgesIn i es = true → e ∈ es → e.on < i := by
    intro es
    induction es with
    | nil => intro _ h; cases h
    | cons x es ih =>
     intro h1 h2
     simp only [edgesIn, Bool.and_eq_true, Bool.or_eq_true, Bool.not_eq_true', decide_eq_true_eq] at h1
     rcases List.mem_cons.1 h2 with e' | e'
     ·subst e'
      rcases h1.1 with h3 | h3
      ·rw [hb] at h3; cases h3
      ·exact h3
     ·exact ih h1.2 e'
   simpa using key _ h.1 (by simpa using he)
  | succ j =>
   intro e he hb
   have := edgesOk_spec h.2 j o (by simpa using ho) e he hb
   omega
def Closed (ops : List Oper) (S : Nat → Bool) : Prop := ∀ j o, ops[j]? = some o → S j = true → ∀ e ∈ o.after, Region.binds .any e = true → S e.on = true
theorem maskOf_spec {ms : List Nat} {S : Nat → Bool} {i : Nat} (hms : ∀ j, (ms.getD j 0).testBit i = true → S j = true → S i = true) : ∀ {es : List Edge}, (∀ e ∈ es, Region.binds .any e = true → S e.on = true) → (maskOf ms es).testBit i = true → S i = true
 | [], _, h => by simp [maskOf] at h
 | e :: es, hS, h => by
  simp only [maskOf] at h
  split at h
  ·rename_i hb
   rw [Nat.testBit_or, Nat.testBit_or, Bool.or_eq_true, Bool.or_eq_true] at h
   rcases h with h | h | h
   ·exact maskOf_spec hms (fun e he => hS e (List.mem_cons_of_mem _ he)) h
   ·have : e.on = i := by
     rw [Nat.testBit_two_pow] at h
     simpa using h
    exact this ▸ hS e List.mem_cons_self hb
   ·exact hms _ h (hS e List.mem_cons_self hb)
  ·exact maskOf_spec hms (fun e he => hS e (List.mem_cons_of_mem _ he)) h
theorem masks_spec {S : Nat → Bool} {i : Nat} : ∀ (rest pre : List Oper) (ms : List Nat), ms.length = pre.length → Closed (pre ++ rest) S → (∀ j, (ms.getD j 0).testBit i = true → S j = true → S i = true) →
  ∀ j, ((masks ms rest).getD j 0).testBit i = true → S j = true → S i = true
 | [], pre, ms, hl, hc, h => h
 | o :: rest, pre, ms, hl, hc, h => by
  simp only [masks]
  refine masks_spec rest (pre ++ [o]) _ (by simp [hl]) (by simpa using hc) fun j hj hS => ?_
  by_cases hlt : j < ms.length
  ·rw [List.getD_eq_getElem?_getD, List.getElem?_append_left hlt, ← List.getD_eq_getElem?_getD] at hj
   exact h j hj hS
  ·by_cases he : j = ms.length
   ·subst he
    rw [List.getD_eq_getElem?_getD, List.getElem?_append_right (Nat.le_refl _)] at hj
    simp at hj
    refine maskOf_spec h (fun e he hb => ?_) hj
    exact hc ms.length o (by rw [hl]; simp) hS e (by simpa using he) hb
   ·rw [List.getD_eq_getElem?_getD, List.getElem?_eq_none (by simp; omega)] at hj
    simp at hj
theorem masks_closed {ops : List Oper} {S : Nat → Bool} (hc : Closed ops S) {i j : Nat} (h : ((masks [] ops).getD j 0).testBit i = true) (hS : S j = true) : S i = true :=
 masks_spec ops [] [] rfl (by simpa using hc) (by simp) j h hS
def putF (F : Nat → SV) (d : Option Tmp) (v : SV) : Nat → SV := fun t => if d = some t then v else F t
def gval (ds : List (Option Tmp)) (g : Option (Nat × Bool)) (F : Nat → SV) : Option Bool :=
 match g with
 | none => some true
 | some (j, want) => match nth ds j with
  | none => none
  | some t => match F t with
   | .val (.bool b) => some (b == want)
   | .val (.tuple _) => some false
   | _ => none
inductive OpRun (P : Program) (F : Nat → SV) (hp : List (Nat × Blk)) (id : Nat) (o : Oper) : SV → Option Blk → Prop
 | pure (obl : Prop) (sv : SV) (h : stepR P F hp o.op = .pure obl sv) (ho : obl) : OpRun P F hp id o sv none
 | ex (obl : SV → Prop) (sv : SV) (h : stepR P F hp o.op = .ex obl) (ho : obl sv) : OpRun P F hp id o sv none
 | new (obl : Prop) (b : Blk) (mk : Nat → SV) (h : stepR P F hp o.op = .new obl b mk) (ho : obl) : OpRun P F hp id o (mk id) (some b)
 | call (f : FuncId) (args pats : List SV) (res : SV) (h : stepR P F hp o.op = .call f args) (hc : Contract P f pats res) (hs : (SubL hp pats args ∧ Fresh res) ∨ SubL [] pats args) : OpRun P F hp id o res none
 | callN (f : FuncId) (args pats : List SV) (b : Blk) (res : SV) (h : stepR P F hp o.op = .call f args) (hc : ContractN P f pats b res) (hs : NewOk hp pats args b res) : OpRun P F hp id o (setId id res) (some b)
def consO (nb : Option Blk) (id : Nat) (hp : List (Nat × Blk)) : List (Nat × Blk) := match nb with | some b => (id, b) :: hp | none => hp
inductive TRun (P : Program) (ds : List (Option Tmp)) (nid : Nat) : Nat → List Oper → (Nat → SV) → List (Nat × Blk) → List (Bool × SV × Option Blk) → (Nat → SV) → List (Nat × Blk) → Prop
 | nil (i : Nat) (F : Nat → SV) (hp : List (Nat × Blk)) : TRun P ds nid i [] F hp [] F hp
 | skip (i : Nat) (o : Oper) (rest : List Oper) (F F' : Nat → SV) (hp hp' : List (Nat × Blk)) (rs : List (Bool × SV × Option Blk)) (hg : gval ds o.guard F = some false)
   (h : TRun P ds nid (i + 1) rest (putF F o.dst undefSV) hp rs F' hp') : TRun P ds nid i (o :: rest) F hp ((false, undefSV, none) :: rs) F' hp'
 | run (i : Nat) (o : Oper) (rest : List Oper) (F F' : Nat → SV) (hp hp' : List (Nat × Blk)) (rs : List (Bool × SV × Option Blk)) (sv : SV) (nb : Option Blk) (hg : gval ds o.guard F = some true) (hr : OpRun P F hp (nid + i) o sv nb)
   (h : TRun P ds nid (i + 1) rest (putF F o.dst sv) (consO nb (nid + i) hp) rs F' hp') : TRun P ds nid i (o :: rest) F hp ((true, sv, nb) :: rs) F' hp'
theorem look_putF (fr : List (Nat × SV)) (hp : List (Nat × Blk)) (nid : Nat) (d : Option Tmp) (v : SV) : look (({ fr := fr, hp := hp, nid := nid } : St).put d v).fr = putF (look fr) d v := by
 funext t
 cases d with
 | none => simp [St.put, putF]
 | some d =>
  simp only [St.put, putF, look_put, Option.some.injEq]
  by_cases e : t = d
  ·subst e; simp
  ·rw [if_neg e, if_neg (Ne.symm e)]
def quiet : Res → Bool
 | .upd _ _ _ => false
 | .updv _ _ _ _ => false
 | .grow _ _ _ _ => false
 | _ => true
theorem quiet_stays {x : Res} (h : stays x = true) : quiet x = true := by cases x <;> first | rfl | cases h
theorem quiet_form {x : Res} (h : (∃ obl b mk, x = .new obl b mk) ∨ x = .bad) : quiet x = true := by rcases h with ⟨_, _, _, rfl⟩ | rfl <;> rfl
theorem stepR_calm {P : Program} {F : Nat → SV} {hp : List (Nat × Blk)} {op : Op} (h : calm op = true) : quiet (stepR P F hp op) = true := by
 cases op <;> first | (simp [calm] at h; done) | (simp only [stepR])
 case move => rfl
 case assign => rfl
 case pick => unfold rPick; split <;> rfl
 case alloc => unfold rAlloc; split <;> rfl
 case box => unfold rBox; (repeat' split) <;> rfl
 case load => unfold rLoad; (repeat' split) <;> rfl
 case nilCheck => unfold rNil; split <;> rfl
 case binOp => unfold rBin; (repeat' split) <;> first | rfl | (rcases rNilS_form P _ _ _ _ _ with ⟨_, _, e⟩ | e <;> rw [e] <;> rfl) | (unfold rInt; split <;> rfl) | (unfold rEq; (repeat' split) <;> rfl)
 case lookup => exact quiet_stays (rLookup_stays _ _ _ _ _)
 case makeMap => exact quiet_form (rMakeMap_form _ _)
 case index => exact quiet_stays (rIndex_stays _ _ _)
 case unOp => unfold rUn; split <;> rfl
 case convert => unfold rConv; split <;> rfl
 case makeFunc => rfl
 case fieldAddr => unfold rFieldAddr; (repeat' split) <;> rfl
 case field => unfold rField; (repeat' split) <;> rfl
 case indexAddr => unfold rIndexAddr; (repeat' split) <;> rfl
 case extract => unfold rExtract; split <;> rfl
 case build => exact quiet_stays (rBuild_stays _ _)
 case buildSlice => exact quiet_form (rBuildSlice_form _ _ _)
 case makeSlice => exact quiet_form (rMakeSlice_form _ _ _)
 case slice => exact quiet_stays (rSlice_stays _ _ _ _ _)
 case call c =>
  obtain ⟨callee, args, ts⟩ := c
  cases callee with
  | value f => simp only [rCall]; split <;> rfl
  | invoke _ _ => simp [calm] at h
  | builtin b =>
   cases b <;> first | (simp [calm] at h; done) | skip
   case len => simp only [rCall]; split <;> first | rfl | (unfold rLen; (repeat' split) <;> rfl)
   case max => simp only [rCall]; unfold rMin; (repeat' split) <;> rfl
   case min => simp only [rCall]; unfold rMin; (repeat' split) <;> rfl
theorem guard_resolve {ds : List (Option Tmp)} {g : Option (Nat × Bool)} {st : St} {run skip : St → Prop} (h : guardVC ds g st run skip) :
  ∃ st', st'.nid = st.nid ∧ st'.hp = st.hp ∧ look st'.fr = look st.fr ∧ ((gval ds g (look st.fr) = some true ∧ run st') ∨ (gval ds g (look st.fr) = some false ∧ skip st')) := by
 unfold guardVC at h
 cases g with
 | none => exact ⟨st, rfl, rfl, rfl, .inl ⟨rfl, h⟩⟩
 | some gw =>
  obtain ⟨j, want⟩ := gw
  cases ht : nth ds j with
  | none => simp [ht] at h
  | some t =>
   simp only [ht] at h
   cases hl : look st.fr t with
   | val v =>
    rw [hl] at h
    have hkeep : ∀ b, v = .bool b → look (st.put (some t) (.val (.bool b))).fr = look st.fr := fun b hb => by
     funext x
     simp only [St.put, look_put]
     split
     ·rename_i e; subst e; rw [hl, hb]
     ·rfl
    cases v with
    | bool b =>
     cases b <;> cases want
     ·exact ⟨_, put_nid _ _ _, put_hp _ _ _, hkeep _ rfl, .inl ⟨by simp [gval, ht, hl], h.2 rfl⟩⟩
     ·exact ⟨_, put_nid _ _ _, put_hp _ _ _, hkeep _ rfl, .inr ⟨by simp [gval, ht, hl], h.2 rfl⟩⟩
     ·exact ⟨_, put_nid _ _ _, put_hp _ _ _, hkeep _ rfl, .inr ⟨by simp [gval, ht, hl], h.1 rfl⟩⟩
     ·exact ⟨_, put_nid _ _ _, put_hp _ _ _, hkeep _ rfl, .inl ⟨by simp [gval, ht, hl], h.1 rfl⟩⟩
    | tuple vs => exact ⟨st, rfl, rfl, rfl, .inr ⟨by simp [gval, ht, hl], h⟩⟩
    | _ => exact h.elim
   | _ => rw [hl] at h; exact h.elim
theorem plain_of_call {P : Program} {F : Nat → SV} {hp : List (Nat × Blk)} {op : Op} {f : FuncId} {args : List SV} (h : stepR P F hp op = .call f args) : plainCall op = true := by
 obtain ⟨x, xs, ts, first, caps, rfl, _⟩ := stepR_call h; rfl
theorem plain_of_yield {P : Program} {F : Nat → SV} {hp : List (Nat × Blk)} {op : Op} {y : Nat} {args : List SV} (h : stepR P F hp op = .yield y args) : plainCall op = true := by
 obtain ⟨x, xs, ts, rfl, _⟩ := stepR_yield h; rfl
theorem raw_not_calm {P : Program} {F : Nat → SV} {hp : List (Nat × Blk)} {op : Op} (h : stepR P F hp op = .raw) : calm op = false := by
 rcases stepR_ctl (P := P) F hp op with h' | ⟨x, xs, ts, rfl⟩ | ⟨t, x, rfl⟩ | ⟨x, s, rfl⟩ | ⟨x, rfl⟩
 ·rw [h] at h'; cases h'
 ·simp only [stepR, rCall] at h; split at h <;> cases h
 ·rfl
 ·rfl
 ·rfl
theorem resolve {P : Program} {O : Ctx} {J : Prop} {ds : List (Option Tmp)} {K : St → Prop} {tail : List Oper} : ∀ (pre : List Oper) (i : Nat) (st : St), (∀ o ∈ pre, calm o.op = true) → (J → ∀ o ∈ pre, plainCall o.op = false) → opsVC P O J ds (pre ++ tail) i st K →
  ∃ rs st', TRun P ds st.nid i pre (look st.fr) st.hp rs (look st'.fr) st'.hp ∧ st'.nid = st.nid ∧ opsVC P O J ds tail (i + pre.length) st' K
 | [], i, st, _, _, h => ⟨[], st, .nil _ _ _, rfl, h⟩
 | o :: pre, i, st, hcalm, hJ, h => by
  obtain ⟨st1, hn, hh, hl, hcase⟩ := guard_resolve h
  have hlen : i + (o :: pre).length = (i + 1) + pre.length := by simp; omega
  rw [hlen]
  rcases hcase with ⟨hg, hrun⟩ | ⟨hg, hskip⟩
  ·have go : ∀ (st2 : St) (sv : SV) (nb : Option Blk), OpRun P (look st.fr) st.hp (st.nid + i) o sv nb → st2.nid = st.nid → st2.hp = consO nb (st.nid + i) st.hp → look st2.fr = putF (look st.fr) o.dst sv → opsVC P O J ds (pre ++ tail) (i + 1) st2 K →
     ∃ rs st', TRun P ds st.nid i (o :: pre) (look st.fr) st.hp rs (look st'.fr) st'.hp ∧ st'.nid = st.nid ∧ opsVC P O J ds tail ((i + 1) + pre.length) st' K := by
    intro st2 sv nb hr h1 h2 h3 h4
    obtain ⟨rs, st', ht, hn', hk⟩ := resolve pre (i + 1) st2 (fun o ho => hcalm o (List.mem_cons_of_mem _ ho)) (fun j o ho => hJ j o (List.mem_cons_of_mem _ ho)) h4
    rw [h1, h2, h3] at ht
    exact ⟨_, st', .run _ _ _ _ _ _ _ _ _ _ hg hr ht, hn'.trans h1, hk⟩
   have hst1 : st1 = ⟨st1.fr, st1.hp, st1.nid⟩ := rfl
   generalize hres : stepR P (look st1.fr) st1.hp o.op = res at hrun
   rw [hl, hh] at hres
   cases res with
   | bad => exact hrun.elim
   | pure obl sv => exact go _ sv none (.pure obl sv hres hrun.1) (by rw [put_nid, hn]) (by rw [put_hp, hh]; rfl) (by rw [hst1, look_putF, hl]) hrun.2
   | ex obl =>
    obtain ⟨sv, ho, hk⟩ := hrun
    exact go _ sv none (.ex obl sv hres ho) (by rw [put_nid, hn]) (by rw [put_hp, hh]; rfl) (by rw [hst1, look_putF, hl]) hk
   | new obl b mk => exact go _ (mk (st.nid + i)) (some b) (.new obl b mk hres hrun.1) (by rw [put_nid]; exact hn) (by rw [put_hp]; simp only [consO, hh, hn]) (by rw [look_putF, hl, hn]) hrun.2
   | upd obl j b => have := stepR_calm (P := P) (F := look st.fr) (hp := st.hp) (hcalm o List.mem_cons_self); rw [hres] at this; cases this
   | updv obl j b sv => have := stepR_calm (P := P) (F := look st.fr) (hp := st.hp) (hcalm o List.mem_cons_self); rw [hres] at this; cases this
   | grow obl j b sv => have := stepR_calm (P := P) (F := look st.fr) (hp := st.hp) (hcalm o List.mem_cons_self); rw [hres] at this; cases this
   | call f args =>
    rcases hrun with ⟨pats, res, hc, hs, hk⟩ | ⟨pats, b, res, hc, hs, hk⟩ | ⟨hj, _⟩
    ·rw [hh] at hs
     exact go _ res none (.call f args pats res hres hc hs) (by rw [put_nid, hn]) (by rw [put_hp, hh]; rfl) (by rw [hst1, look_putF, hl]) hk
    ·rw [hh] at hs
     exact go _ (setId (st.nid + i) res) (some b) (.callN f args pats b res hres hc hs) (by rw [put_nid]; exact hn) (by rw [put_hp]; simp only [consO, hh, hn]) (by rw [look_putF, hl, hn]) hk
    ·have := hJ hj o List.mem_cons_self
     rw [plain_of_call hres] at this; cases this
   | yield y args =>
    have := hJ hrun.1 o List.mem_cons_self
    rw [plain_of_yield hres] at this; cases this
   | raw =>
    have := hcalm o List.mem_cons_self
    rw [raw_not_calm hres] at this; cases this
  ·obtain ⟨rs, st', ht, hn', hk⟩ := resolve pre (i + 1) _ (fun o ho => hcalm o (List.mem_cons_of_mem _ ho)) (fun j o ho => hJ j o (List.mem_cons_of_mem _ ho)) hskip
   have hst1 : st1 = ⟨st1.fr, st1.hp, st1.nid⟩ := rfl
   have e1 : look (st1.put o.dst undefSV).fr = putF (look st.fr) o.dst undefSV := by rw [hst1, look_putF, hl]
   rw [put_nid, put_hp, hn, hh, e1] at ht
   exact ⟨_, st', .skip _ _ _ _ _ _ _ _ hg ht, by rw [hn', put_nid, hn], hk⟩
end Go.Sx
end
section
set_option linter.unusedVariables false
set_option linter.unusedSimpArgs false
namespace Go.Sx
open Go.RowKit
section
variable {hp hp' : List (Nat × Blk)}
mutual
theorem sub_mono (h : ∀ id x, blk hp id = some x → blk hp' id = some x) : ∀ (p s : SV), Sub hp p s → Sub hp' p s
 | .top, s, _ => by simp [Sub]
 | .val v, s, hs => by simpa [Sub] using hs
 | .agg l, s, hs => by
  cases s <;> simp only [Sub] at hs ⊢
  exact subL_mono h l _ hs
 | .tup l, s, hs => by
  cases s <;> simp only [Sub] at hs ⊢
  exact subL_mono h l _ hs
 | .fn f a b, s, hs => by
  cases s <;> simp only [Sub] at hs ⊢
  exact ⟨hs.1, subL_mono h a _ hs.2.1, subL_mono h b _ hs.2.2⟩
 | .ref o n row, s, hs => by
  cases s <;> simp only [Sub] at hs ⊢
  case ref => exact ⟨hs.1, hs.2.1, fun j hj => sub_mono h (row j) _ (hs.2.2 j hj)⟩
  case ptr id off =>
   split at hs
   ·rename_i t l hb
    rw [h _ _ hb]
    exact fun j hj => ⟨sub_mono h (row j) _ (hs j hj).1, (hs j hj).2⟩
   ·exact hs.elim
  case elt id k i j0 =>
   split at hs
   ·rename_i t k' n' row' hb
    rw [h _ _ hb]
    exact ⟨hs.1, hs.2.1, hs.2.2.1, fun j hj => sub_mono h (row j) _ (hs.2.2.2 j hj)⟩
   ·exact hs.elim
 | .arr o full n k row, s, hs => by
  cases s <;> simp only [Sub] at hs ⊢
  case arr => exact ⟨hs.1, hs.2.1, hs.2.2.1, hs.2.2.2.1, fun i j hi hj => sub_mono h (row i j) _ (hs.2.2.2.2 i j hi hj)⟩
  case vec id n' k' =>
   obtain ⟨h1, h2, h3, hs⟩ := hs
   refine ⟨h1, h2, h3, ?_⟩
   split at hs
   ·rename_i t k'' m row' hb
    rw [h _ _ hb]
    exact ⟨hs.1, hs.2.1, fun i j hi hj => sub_mono h (row i j) _ (hs.2.2 i j hi hj)⟩
   ·exact hs.elim
  case asl id off n' k' =>
   obtain ⟨h1, h2, h3, hs⟩ := hs
   refine ⟨h1, h2, h3, ?_⟩
   split at hs
   ·rename_i t l hb
    rw [h _ _ hb]
    exact ⟨hs.1, fun i j hi hj => sub_mono h (row i j) _ (hs.2 i j hi hj)⟩
   ·exact hs.elim
  case cut id n' k' =>
   obtain ⟨h2, h3, hs⟩ := hs
   refine ⟨h2, h3, ?_⟩
   split at hs
   ·rename_i t k'' m row' hb
    rw [h _ _ hb]
    exact ⟨hs.1, hs.2.1, fun i j hi hj => sub_mono h (row i j) _ (hs.2.2 i j hi hj)⟩
   ·exact hs.elim
  case val u => exact hs
 | .cmp o fit dom get, s, hs => by
  cases s <;> simp only [Sub] at hs ⊢
  case cmp => exact ⟨hs.1, hs.2.1, hs.2.2.1, fun key hk => sub_mono h (get key) _ (hs.2.2.2 key hk)⟩
  case mp id =>
   split at hs
   ·rename_i fit' dom' get' hb
    rw [h _ _ hb]
    exact ⟨hs.1, hs.2.1, fun key hk => sub_mono h (get key) _ (hs.2.2 key hk)⟩
   ·rename_i fit' dom' get' st' c' hb
    rw [h _ _ hb]
    exact ⟨hs.1, hs.2.1, fun key hk => sub_mono h (get key) _ (hs.2.2 key hk)⟩
   ·exact hs.elim
 | .cut _ _ _, s, hs => by simp [Sub] at hs
 | .ptr _ _, s, hs => by simp [Sub] at hs
 | .elt _ _ _ _, s, hs => by simp [Sub] at hs
 | .vec _ _ _, s, hs => by simp [Sub] at hs
 | .mp _, s, hs => by simp [Sub] at hs
 | .asl _ _ _ _, s, hs => by simp [Sub] at hs
 | .que _ _ _ _, s, hs => by simp [Sub] at hs
 | .yld _, s, hs => by simp [Sub] at hs
theorem subL_mono (h : ∀ id x, blk hp id = some x → blk hp' id = some x) : ∀ (l m : List SV), SubL hp l m → SubL hp' l m
 | [], m, hs => by simpa [SubL] using hs
 | a :: l, m, hs => by
  cases m with
  | nil => simp [SubL] at hs
  | cons b m =>
   simp only [SubL] at hs ⊢
   exact ⟨sub_mono h a b hs.1, subL_mono h l m hs.2⟩
end
theorem NewOk.mono (h : ∀ id x, blk hp id = some x → blk hp' id = some x) {pats args : List SV} {b : Blk} {res : SV} (hn : NewOk hp pats args b res) : NewOk hp' pats args b res := hn.imp (fun hh => ⟨subL_mono h _ _ hh.1, hh.2⟩) (fun hh => hh)
theorem stepR_mono {P : Program} {F : Nat → SV} {op : Op} (hc : calm op = true) (h : ∀ id x, blk hp id = some x → blk hp' id = some x) (hne : stepR P F hp op ≠ .bad) : stepR P F hp' op = stepR P F hp op := by
 cases op <;> first | rfl | (simp [calm] at hc; done) | skip
 case call c =>
  obtain ⟨callee, args, ts⟩ := c
  cases callee with
  | value f => rfl
  | invoke _ _ => simp [calm] at hc
  | builtin b => cases b <;> first | rfl | (simp [calm] at hc; done)
 case lookup t x k ok =>
  simp only [stepR] at hne ⊢
  have hmo : mapOf hp (env F x) ≠ none → mapOf hp' (env F x) = mapOf hp (env F x) := fun hn => by
   unfold mapOf at hn ⊢
   split
   ·rfl
   ·rename_i id hx
    cases hb : blk hp id with
    | none => rw [hx] at hn; simp [hb] at hn
    | some y => rw [h _ _ hb]
   ·rfl
  unfold rLookup at hne ⊢
  split
  ·cases hm : mapOf hp (env F x) with
   | none => rw [hm] at hne; split at hne <;> first | exact absurd rfl hne | (rename_i h1 _ _; cases h1)
   | some y => rw [hmo (by rw [hm]; simp), hm]
  ·rfl
 case load t x =>
  simp only [stepR] at hne ⊢
  unfold rLoad at hne ⊢
  split
  ·split
   ·rename_i id off hx
    cases hb : blk hp id with
    | none => exact absurd (by simp only [hx, hb]; split <;> rfl) hne
    | some y => rw [h _ _ hb]
   ·rename_i id k i j hx
    cases hb : blk hp id with
    | none => exact absurd (by simp only [hx, hb]; split <;> rfl) hne
    | some y => rw [h _ _ hb]
   ·rfl
   ·rfl
  ·split
   ·rename_i id off hx
    cases hb : blk hp id with
    | none => exact absurd (by simp only [hx, hb]; split <;> rfl) hne
    | some y => rw [h _ _ hb]
   ·rename_i id k i j hx
    cases hb : blk hp id with
    | none => exact absurd (by simp only [hx, hb]; split <;> rfl) hne
    | some y => rw [h _ _ hb]
   ·rfl
   ·rfl
  ·rfl
end
def FS (dst : Nat → Option Tmp) (res : Nat → SV) (S : Nat → Bool) (F : Nat → SV) : Nat → Nat → SV
 | 0 => F
 | i + 1 => fun t => if S i = true ∧ dst i = some t then res i else FS dst res S F i t
theorem FS_shift (dst : Nat → Option Tmp) (res : Nat → SV) (S : Nat → Bool) (F : Nat → SV) (j : Nat) :
  FS (fun i => dst (i + 1)) (fun i => res (i + 1)) (fun i => S (i + 1)) (fun t => if S 0 = true ∧ dst 0 = some t then res 0 else F t) j = FS dst res S F (j + 1) := by
 induction j with
 | zero => rfl
 | succ j ih =>
  funext t
  simp only [FS] at ih ⊢
  by_cases h : S (j + 1) = true ∧ dst (j + 1) = some t
  ·rw [if_pos h, if_pos h]
  ·rw [if_neg h, if_neg h, ih]
theorem FS_at {dst : Nat → Option Tmp} {res : Nat → SV} {S : Nat → Bool} {F : Nat → SV} {i t : Nat} : ∀ {m : Nat}, i ≤ m → (∀ j, j < m → dst j = some t → (S j = true ↔ j < i)) → FS dst res S F m t = FS dst res (fun _ => true) F i t
 | 0, hi, h => by
  have e : i = 0 := by omega
  subst e
  rfl
 | m + 1, hi, h => by
  by_cases he : i = m + 1
  ·subst he
   have key : ∀ j, j ≤ m + 1 → FS dst res S F j t = FS dst res (fun _ => true) F j t := by
    intro j
    induction j with
    | zero => intro _; rfl
    | succ j ih =>
     intro hj
     simp only [FS, true_and]
     by_cases hd : dst j = some t
     ·rw [if_pos ⟨(h j (by omega) hd).2 (by omega), hd⟩, if_pos hd]
     ·rw [if_neg (fun e => hd e.2), if_neg hd]; exact ih (by omega)
   exact key _ (Nat.le_refl _)
  ·simp only [FS]
   rw [if_neg]
   ·exact FS_at (by omega) fun j hj hd => h j (by omega) hd
   ·rintro ⟨e1, e2⟩
    have := (h m (by omega) e2).1 e1
    omega
theorem FS_set {dst : Nat → Option Tmp} {res : Nat → SV} {S S' : Nat → Bool} {F : Nat → SV} {i : Nat} {t : Nat} (hS : ∀ j, S' j = (S j || decide (j = i))) : ∀ {m : Nat}, i < m → (dst i = some t → ∀ j, j < m → i < j → dst j = some t → S j = false) →
  FS dst res S' F m t = if dst i = some t then res i else FS dst res S F m t
 | 0, hi, h => by omega
 | m + 1, hi, h => by
  have low : ∀ j, j ≤ i → FS dst res S' F j t = FS dst res S F j t := by
   intro j
   induction j with
   | zero => intro _; rfl
   | succ j ih =>
    intro hj
    simp only [FS]
    have : S' j = S j := by rw [hS]; simp; intro e; omega
    rw [this, ih (by omega)]
  by_cases he : i = m
  ·subst he
   simp only [FS]
   have : S' i = true := by rw [hS]; simp
   rw [low i (Nat.le_refl _)]
   by_cases hd : dst i = some t
   ·rw [if_pos ⟨this, hd⟩, if_pos hd]
   ·rw [if_neg (fun e => hd e.2), if_neg hd, if_neg (fun e => hd e.2)]
  ·simp only [FS]
   have e1 : S' m = S m := by rw [hS]; simp; intro e; omega
   rw [e1, FS_set hS (by omega) fun hd j hj hij hdj => h hd j (by omega) hij hdj]
   by_cases hm : S m = true ∧ dst m = some t
   ·rw [if_pos hm]
    by_cases hd : dst i = some t
    ·have := h hd m (by omega) (by omega) hm.2
     rw [hm.1] at this; cases this
    ·rw [if_neg hd, if_pos hm]
   ·rw [if_neg hm]
    by_cases hd : dst i = some t
    ·rw [if_pos hd, if_pos hd]
    ·rw [if_neg hd, if_neg hd, if_neg hm]
def resOf (rs : List (Bool × SV × Option Blk)) (i : Nat) : SV := match rs[i]? with | some (_, sv, _) => sv | none => .top
theorem trun_spec {P : Program} {ds : List (Option Tmp)} {nid : Nat} : ∀ {ops : List Oper} {i0 : Nat} {F F' : Nat → SV} {hp hp' : List (Nat × Blk)} {rs : List (Bool × SV × Option Blk)}, TRun P ds nid i0 ops F hp rs F' hp' → (∀ id x, blk hp id = some x → id < nid + i0) →
  (∀ id x, blk hp id = some x → blk hp' id = some x) ∧ (∀ id x, blk hp' id = some x → blk hp id = some x ∨ ∃ j wt sv, rs[j]? = some (wt, sv, some x) ∧ id = nid + (i0 + j) ∧ j < ops.length) ∧
  F' = FS (nth (dsts ops)) (resOf rs) (fun _ => true) F ops.length ∧
  ∀ j o, ops[j]? = some o → ∃ wt sv nb hpj, rs[j]? = some (wt, sv, nb) ∧ (∀ id x, blk hpj id = some x → blk hp' id = some x) ∧
   ((wt = false ∧ gval ds o.guard (FS (nth (dsts ops)) (resOf rs) (fun _ => true) F j) = some false ∧ sv = undefSV ∧ nb = none) ∨
    (wt = true ∧ gval ds o.guard (FS (nth (dsts ops)) (resOf rs) (fun _ => true) F j) = some true ∧ OpRun P (FS (nth (dsts ops)) (resOf rs) (fun _ => true) F j) hpj (nid + (i0 + j)) o sv nb ∧ ∀ b, nb = some b → blk hp' (nid + (i0 + j)) = some b))
 | [], i0, F, F', hp, hp', rs, h, hk => by
  cases h with
  | nil => exact ⟨fun _ _ h => h, fun _ _ h => .inl h, rfl, fun j o ho => by simp at ho⟩
 | o :: ops, i0, F, F', hp, hp', rs, h, hk => by
  have shift : ∀ (rs' : List (Bool × SV × Option Blk)) (x : Bool × SV × Option Blk) (j : Nat), FS (nth (dsts ops)) (resOf rs') (fun _ => true) (putF F o.dst x.2.1) j = FS (nth (dsts (o :: ops))) (resOf (x :: rs')) (fun _ => true) F (j + 1) := fun rs' x j => by
   rw [← FS_shift]
   congr 1
   funext t
   simp [putF, nth, dsts, resOf]
  cases h with
  | skip _ _ _ _ _ _ _ rs' hg h =>
   obtain ⟨h1, h2, h3, h4⟩ := trun_spec h (fun id x hx => by have := hk id x hx; omega)
   refine ⟨h1, fun id x hx => ?_, ?_, fun j o' ho => ?_⟩
   ·rcases h2 id x hx with h | ⟨j, wt, sv, hj, e, hjl⟩
    ·exact .inl h
    ·exact .inr ⟨j + 1, wt, sv, by simpa using hj, by omega, by simp; omega⟩
   ·rw [h3]; exact shift rs' (false, undefSV, none) ops.length
   ·cases j with
    | zero =>
     simp at ho; subst ho
     exact ⟨false, undefSV, none, [], rfl, fun id x hx => by simp [blk] at hx, .inl ⟨rfl, hg, rfl, rfl⟩⟩
    | succ j =>
     obtain ⟨wt, sv, nb, hpj, hj, hsub, hcase⟩ := h4 j o' (by simpa using ho)
     have e := shift rs' (false, undefSV, none) j
     dsimp only at e
     rw [e] at hcase
     have e2 : nid + (i0 + 1 + j) = nid + (i0 + (j + 1)) := by omega
     rw [e2] at hcase
     exact ⟨wt, sv, nb, hpj, by simpa using hj, hsub, hcase⟩
  | run _ _ _ _ _ _ _ rs' sv nb hg hr h =>
   have hk' : ∀ id x, blk (consO nb (nid + i0) hp) id = some x → id < nid + (i0 + 1) := fun id x hx => by
    cases nb with
    | none => have := hk id x hx; omega
    | some b =>
     simp only [consO, blk] at hx
     split at hx
     ·omega
     ·have := hk id x hx; omega
   obtain ⟨h1, h2, h3, h4⟩ := trun_spec h hk'
   have hsub0 : ∀ id x, blk hp id = some x → blk (consO nb (nid + i0) hp) id = some x := fun id x hx => by
    cases nb with
    | none => exact hx
    | some b =>
     simp only [consO, blk]
     rw [if_neg (by have := hk id x hx; omega)]
     exact hx
   refine ⟨fun id x hx => h1 id x (hsub0 id x hx), fun id x hx => ?_, ?_, fun j o' ho => ?_⟩
   ·rcases h2 id x hx with h | ⟨j, wt, sv', hj, e, hjl⟩
    ·cases nb with
     | none => exact .inl h
     | some b =>
      simp only [consO, blk] at h
      split at h
      ·rename_i e
       cases h
       exact .inr ⟨0, true, sv, rfl, by omega, by simp⟩
      ·exact .inl h
    ·exact .inr ⟨j + 1, wt, sv', by simpa using hj, by omega, by simp; omega⟩
   ·rw [h3]; exact shift rs' (true, sv, nb) ops.length
   ·cases j with
    | zero =>
     simp at ho; subst ho
     refine ⟨true, sv, nb, hp, rfl, fun id x hx => h1 id x (hsub0 id x hx), .inr ⟨rfl, hg, hr, fun b hb => ?_⟩⟩
     subst hb
     exact h1 _ _ (by simp [consO, blk])
    | succ j =>
     obtain ⟨wt, sv', nb', hpj, hj, hsub, hcase⟩ := h4 j o' (by simpa using ho)
     have e := shift rs' (true, sv, nb) j
     dsimp only at e
     rw [e] at hcase
     have e2 : nid + (i0 + 1 + j) = nid + (i0 + (j + 1)) := by omega
     rw [e2] at hcase
     exact ⟨wt, sv', nb', hpj, by simpa using hj, hsub, hcase⟩
end Go.Sx
end
section
set_option linter.unusedVariables false
set_option linter.unusedSimpArgs false
namespace Go.Sx
open Go.RowKit
theorem apartOk_spec {ds : List (Option Tmp)} {ms : List Nat} {ops : List Oper} (h : apartOk ds ms ops = true) {i j : Nat} {oi oj : Oper} (hi : ops[i]? = some oi) (hj : ops[j]? = some oj) (hij : i < j) :
  (ms.getD j 0).testBit i = true ∨ ((∀ d, nth ds i = some d → d ∉ seen ds oj) ∧ (∀ d, nth ds j = some d → d ∉ seen ds oi)) := by
 have hjl : j < ops.length := (List.getElem?_eq_some_iff.1 hj).1
 simp only [apartOk, List.all_eq_true, List.mem_range] at h
 have h1 := h j hjl
 rw [hj] at h1
 simp only [List.all_eq_true, List.mem_range] at h1
 have h2 := h1 i hij
 rw [hi] at h2
 simp only [Bool.or_eq_true, Bool.and_eq_true] at h2
 rcases h2 with h2 | ⟨h2, h3⟩
 ·exact .inl h2
 ·refine .inr ⟨fun d hd => ?_, fun d hd => ?_⟩
  ·rw [hd] at h2; simpa using h2
  ·rw [hd] at h3; simpa using h3
theorem calmLen_le : ∀ (l : List Oper), calmLen l ≤ l.length
 | [] => Nat.le_refl _
 | o :: l => by
  simp only [calmLen, List.length_cons]
  split
  ·have := calmLen_le l; omega
  ·omega
theorem calm_take : ∀ (l : List Oper), ∀ o ∈ l.take (calmLen l), calm o.op = true
 | [], o, h => by simp at h
 | p :: l, o, h => by
  simp only [calmLen] at h
  split at h
  ·rename_i hp
   simp only [List.take_succ_cons, List.mem_cons] at h
   rcases h with e | e
   ·exact e ▸ hp
   ·exact calm_take l o e
  ·simp at h
theorem callLen_le : ∀ (l : List Oper), callLen l ≤ l.length
 | [] => Nat.le_refl _
 | o :: l => by
  simp only [callLen]
  split
  ·have := callLen_le l; simp; omega
  ·simp
theorem callLen_take : ∀ (l : List Oper), ∀ o ∈ l.take (callLen l), calm o.op = true ∧ plainCall o.op = false
 | [], o, h => by simp [callLen] at h
 | x :: l, o, h => by
  simp only [callLen] at h
  split at h
  ·rename_i hc
   simp only [Bool.and_eq_true, Bool.not_eq_true'] at hc
   simp only [List.take_succ_cons, List.mem_cons] at h
   rcases h with rfl | h
   ·exact hc
   ·exact callLen_take l o h
  ·simp at h
theorem dsts_take (l : List Oper) (m j : Nat) (h : j < m) : nth (dsts (l.take m)) j = nth (dsts l) j := by
 rw [dsts_get, dsts_get, List.getElem?_take_of_lt h]
theorem FS_congr {dst dst' : Nat → Option Tmp} {res : Nat → SV} {S : Nat → Bool} {F : Nat → SV} : ∀ {m : Nat}, (∀ j, j < m → dst j = dst' j) → FS dst res S F m = FS dst' res S F m
 | 0, _ => rfl
 | m + 1, h => by
  funext t
  simp only [FS]
  rw [h m (by omega), FS_congr fun j hj => h j (by omega)]
section
variable {P : Program} {O : Ctx} {outs : Outs} {base : World} {okc : Nat → Prop} {ns : Nat}
def NS (nid m : Nat) (S : Nat → Bool) : Nat → Prop := fun id => id < nid ∨ ∃ j, j < m ∧ S j = true ∧ id = nid + j
structure Ext (O : Ctx) (base : World) (okc : Nat → Prop) (r : Nat → Option Nat) (N : Nat → Prop) (hp : List (Nat × Blk)) (outs : Outs) (a : Act) (w : World) : Prop where
 out : OutOk r O.lo (Gd base okc r N hp w) w O.fs outs.as
 rfix : ∀ id, id < O.lo → r id = outs.r0 id
 defers : ∃ Ds : List Nat, allD a outs.as = Ds.map cDef ∧ Ds.Nodup ∧ ∀ D ∈ Ds, Gd base okc r N hp w true D ∧ w.heap[D]? = some (.deferred (some []))
theorem Ext.step {O : Ctx} {base : World} {okc : Nat → Prop} {r r' : Nat → Option Nat} {N N' : Nat → Prop} {hp hp' : List (Nat × Blk)} {outs : Outs} {a : Act} {w w' : World} (h : Ext O base okc r N hp outs a w) (hs : Step base okc r N hp w r' N' hp' w') (hlo : ∀ i, i < O.lo → N i) (d : Option Tmp) (v : Value) :
  Ext O base okc r' N' hp' outs (a.put d v) w' := by
 refine ⟨h.out.mono (Nat.le_refl _) fun n hn sv v hv => hv.mono (fun id hid => hs.rr id (hlo id (Nat.lt_of_lt_of_le hid hn))) (fun _ h => h) hs.gg hs.sh, fun id hid => (hs.rr id (hlo id hid)).trans (h.rfix id hid), ?_⟩
 obtain ⟨Ds, h1, h2, h3⟩ := h.defers
 refine ⟨Ds, by unfold allD; rw [put_defers]; exact h1, h2, fun D hD => ?_⟩
 obtain ⟨h4, h5⟩ := h3 D hD
 obtain ⟨h6, h7⟩ := hs.gg _ _ h4
 exact ⟨h6, h7.trans h5⟩
theorem Ext.step0 {O : Ctx} {base : World} {okc : Nat → Prop} {r r' : Nat → Option Nat} {N N' : Nat → Prop} {hp hp' : List (Nat × Blk)} {outs : Outs} {a : Act} {w w' : World} (h : Ext O base okc r N hp outs a w) (hs : Step base okc r N hp w r' N' hp' w') (hlo : ∀ i, i < O.lo → N i) :
  Ext O base okc r' N' hp' outs a w' := h.step hs hlo none undef
def Mid (O : Ctx) (outs : Outs) (base : World) (okc : Nat → Prop) (ns nid m : Nat) (hp : List (Nat × Blk)) (dst : Nat → Option Tmp) (res : Nat → SV) (F : Nat → SV) (S : Nat → Bool) (a : Act) (w : World) : Prop :=
 ∃ r, Sat base okc r (NS nid m S) hp w ∧ (∀ t, Rep r (NS nid m S) (Gd base okc r (NS nid m S) hp w) w (FS dst res S F m t) (a.tmps.getD t undef)) ∧ a.tmps.size = ns ∧ Ext O base okc r (NS nid m S) hp outs a w
theorem NS_set {nid m i : Nat} {S S' : Nat → Bool} (hS : ∀ j, S' j = (S j || decide (j = i))) (hi : i < m) : plus (NS nid m S) (nid + i) = NS nid m S' := by
 funext id
 simp only [plus, NS, eq_iff_iff]
 constructor
 ·rintro ((h | ⟨j, h1, h2, h3⟩) | h)
  ·exact .inl h
  ·exact .inr ⟨j, h1, by rw [hS, h2]; rfl, h3⟩
  ·exact .inr ⟨i, hi, by rw [hS]; simp, h⟩
 ·rintro (h | ⟨j, h1, h2, h3⟩)
  ·exact .inl (.inl h)
  ·rw [hS] at h2
   simp only [Bool.or_eq_true, decide_eq_true_eq] at h2
   rcases h2 with h2 | h2
   ·exact .inl (.inr ⟨j, h1, h2, h3⟩)
   ·subst h2; exact .inr h3
theorem mid_put {nid m i : Nat} {hp : List (Nat × Blk)} {dst : Nat → Option Tmp} {res F : Nat → SV} {S S' : Nat → Bool} {a : Act} {w w' : World} {r r' : Nat → Option Nat} (hS : ∀ j, S' j = (S j || decide (j = i))) (hi : i < m)
  (hlater : ∀ t, dst i = some t → ∀ j, j < m → i < j → dst j = some t → S j = false)
  (hF : ∀ t, Rep r (NS nid m S) (Gd base okc r (NS nid m S) hp w) w (FS dst res S F m t) (a.tmps.getD t undef)) (hsize : a.tmps.size = ns) (hdef : Ext O base okc r (NS nid m S) hp outs a w) (hlo : O.lo ≤ nid) (hd : ∀ t, dst i = some t → t < ns)
  (hs : Step base okc r (NS nid m S) hp w r' (NS nid m S') hp w') {v : Value} (hv : Rep r' (NS nid m S') (Gd base okc r' (NS nid m S') hp w') w' (res i) v) : Mid O outs base okc ns nid m hp dst res F S' (a.put (dst i) v) w' := by
 refine ⟨r', hs.sat, fun t => ?_, by cases dst i <;> simp [Act.put, hsize], hdef.step hs (fun i hi => .inl (Nat.lt_of_lt_of_le hi hlo)) _ _⟩
 rw [FS_set hS hi (hlater t), put_getD]
 by_cases e : dst i = some t
 ·rw [if_pos e, if_pos ⟨e, by rw [hsize]; exact hd t e⟩]; exact hv
 ·rw [if_neg e, if_neg (fun h => e h.1)]; exact hs.rep (hF t)
def cnt (S : Nat → Bool) : Nat → Nat
 | 0 => 0
 | n + 1 => cnt S n + if S n = true then 0 else 1
theorem cnt_set {S S' : Nat → Bool} {i : Nat} (hS : ∀ j, S' j = (S j || decide (j = i))) (hi : S i = false) : ∀ {n : Nat}, (n ≤ i → cnt S' n = cnt S n) ∧ (i < n → cnt S' n + 1 = cnt S n)
 | 0 => ⟨fun _ => rfl, fun h => by omega⟩
 | n + 1 => by
  obtain ⟨h1, h2⟩ := cnt_set hS hi (n := n)
  refine ⟨fun h => ?_, fun h => ?_⟩
  ·simp only [cnt]
   have : S' n = S n := by rw [hS]; simp; intro e; omega
   rw [this, h1 (by omega)]
  ·simp only [cnt]
   by_cases e : i = n
   ·subst e
    have : S' i = true := by rw [hS]; simp
    rw [this, hi, h1 (Nat.le_refl _)]
    simp
   ·have : S' n = S n := by rw [hS]; simp; intro e'; omega
    rw [this]
    have := h2 (by omega)
    omega
theorem cnt_zero {S : Nat → Bool} : ∀ {n : Nat}, cnt S n = 0 → ∀ j, j < n → S j = true
 | 0, _, j, h => by omega
 | n + 1, h, j, hj => by
  simp only [cnt] at h
  by_cases e : j = n
  ·subst e
   cases hS : S j
   ·rw [hS] at h; simp at h
   ·rfl
  ·exact cnt_zero (S := S) (n := n) (by omega) j (by omega)
theorem cnt_tail {S : Nat → Bool} {m : Nat} (h1 : ∀ j, j < m → S j = true) (h2 : ∀ j, m ≤ j → S j = false) : ∀ {n : Nat}, m ≤ n → cnt S n = n - m
 | 0, h => by simp [cnt]
 | n + 1, h => by
  by_cases e : m = n + 1
  ·subst e
   have key : ∀ j, j ≤ n + 1 → cnt S j = 0 := by
    intro j
    induction j with
    | zero => intro _; rfl
    | succ j ih => intro hj; simp only [cnt]; rw [ih (by omega), h1 j (by omega)]; rfl
   rw [key _ (Nat.le_refl _)]; omega
  ·simp only [cnt]
   rw [cnt_tail h1 h2 (by omega), h2 n (by omega)]
   simp; omega
theorem getD_set {l : Array Bool} {i j : Nat} (hi : i < l.size) : (l.setIfInBounds i true).getD j false = (l.getD j false || decide (j = i)) := by
 by_cases e : i = j
 ·subst e; simp [hi]
 ·simp only [Array.getD_eq_getD_getElem?]
  rw [Array.getElem?_setIfInBounds_ne e]
  simp [Ne.symm e]
theorem draw_ok {ro : Option Nat} {ops : Array Oper} {id : Nat} {Q : Exit → Act → World → Prop} {st : St} {K : St → Prop} {a : Act} {w : World} (hm : P.follows .mixedOrders = true) (hok : drawOk ops.toList = true) (hd : ops.toList.all (dstIn ns) = true)
  (h : Inv O base okc ns st.nid outs st a w) (hk : opsVC P O (inlOk true ops.toList = true) (dsts ops.toList) ops.toList 0 st K)
  (hK : ∀ st' a' w', K st' → Inv O base okc ns (st'.nid + ops.toList.length) outs st' a' w' → Q .normal a' w') : (Code.region id ops true).wpIn (FR ro) 0 P Q a w := by
 obtain ⟨r0, h0⟩ := h
 generalize hl : ops.toList = l at hok hd hk hK
 have hn : ops.size = l.length := by rw [← hl]; simp
 have hget : ∀ j : Nat, ops[j]? = l[j]? := fun j => by rw [← hl]; simp
 simp only [drawOk, Bool.and_eq_true] at hok
 obtain ⟨⟨hedge, hapart⟩, htail⟩ := hok
 have hedge := edgesOk_spec hedge
 obtain ⟨m, hml, hcalm, hnoJ, htail⟩ : ∃ m, m ≤ l.length ∧ (∀ o ∈ l.take m, calm o.op = true) ∧ (inlOk true l = true → ∀ o ∈ l.take m, plainCall o.op = false) ∧ ∀ j, j < l.length → m ≤ j → (masks [] l).getD j 0 = 2 ^ j - 1 := by
  have spec : ∀ m, tailOk (masks [] l) m l.length = true → ∀ j, j < l.length → m ≤ j → (masks [] l).getD j 0 = 2 ^ j - 1 := fun m htail j hj hjm => by
   simp only [tailOk, List.all_eq_true, List.mem_range] at htail
   have := htail j hj
   simp only [Bool.or_eq_true, decide_eq_true_eq] at this
   exact this.resolve_left (by omega)
  by_cases hin : inlOk true l = true
  ·exact ⟨callLen l, callLen_le l, fun o ho => (callLen_take l o ho).1, fun _ o ho => (callLen_take l o ho).2, spec _ (by simpa [inlOk] using hin)⟩
  ·exact ⟨calmLen l, calmLen_le l, calm_take l, fun h => absurd h hin, spec _ htail⟩
 have hk' : opsVC P O (inlOk true l = true) (dsts l) (l.take m ++ l.drop m) 0 st K := by rw [List.take_append_drop]; exact hk
 obtain ⟨rs, st1, htr, hn1, hk1⟩ := resolve (l.take m) 0 st hcalm hnoJ hk'
 have hlen : (l.take m).length = m := by simp; omega
 rw [hlen, Nat.zero_add] at hk1
 obtain ⟨hsub, hkeys, hF1, hops⟩ := trun_spec htr (by simpa using h0.keys)
 rw [hlen] at hF1
 have hdstm : ∀ j, j < m → nth (dsts (l.take m)) j = nth (dsts l) j := fun j hj => dsts_take l m j hj
 rw [FS_congr hdstm] at hF1
 have hop : ∀ i o, i < m → l[i]? = some o → ∃ wt sv nb hpj, rs[i]? = some (wt, sv, nb) ∧ (∀ id x, blk hpj id = some x → blk st1.hp id = some x) ∧
   ((wt = false ∧ gval (dsts l) o.guard (FS (nth (dsts l)) (resOf rs) (fun _ => true) (look st.fr) i) = some false ∧ sv = undefSV ∧ nb = none) ∨
    (wt = true ∧ gval (dsts l) o.guard (FS (nth (dsts l)) (resOf rs) (fun _ => true) (look st.fr) i) = some true ∧ OpRun P (FS (nth (dsts l)) (resOf rs) (fun _ => true) (look st.fr) i) hpj (st.nid + i) o sv nb ∧ ∀ b, nb = some b → blk st1.hp (st.nid + i) = some b)) := by
  intro i o hi ho
  obtain ⟨wt, sv, nb, hpj, h1, h2, h3⟩ := hops i o (by rw [List.getElem?_take_of_lt hi]; exact ho)
  rw [FS_congr (fun j hj => hdstm j (by omega)), Nat.zero_add] at h3
  exact ⟨wt, sv, nb, hpj, h1, h2, h3⟩
 have hclosed : ∀ (S : Nat → Bool) (i : Nat), Closed l S → (∃ o, l[i]? = some o ∧ ∀ e ∈ o.after, Region.binds .any e = true → S e.on = true) → Closed l (fun j => S j || decide (j = i)) := by
  rintro S i hc ⟨o, ho, he⟩ j oj hoj hS e hm' hb
  simp only [Bool.or_eq_true, decide_eq_true_eq] at hS ⊢
  rcases hS with hS | hS
  ·exact .inl (hc j oj hoj hS e hm' hb)
  ·subst hS
   rw [ho] at hoj; cases hoj
   exact .inl (he e hm' hb)
 have hready : ∀ (listed : Array Bool) (i : Nat), listed.size = l.length → i ∈ Region.ready .any ops listed → i < l.length ∧ listed.getD i false = false ∧ ∃ o, l[i]? = some o ∧ ∀ e ∈ o.after, Region.binds .any e = true → listed.getD e.on false = true := by
  intro listed i hsz hi
  obtain ⟨h1, o, h2, h3⟩ := mem_ready.1 hi
  rw [hget] at h2
  have hlt : i < l.length := (List.getElem?_eq_some_iff.1 h2).1
  refine ⟨hlt, ?_, o, h2, h3⟩
  have : i < listed.size := by omega
  simpa [this] using h1
 have hleast : ∀ (listed : Array Bool), listed.size = l.length → ∀ i, i < l.length → listed.getD i false = false → ∃ j, j ≤ i ∧ j ∈ Region.ready .any ops listed := by
  intro listed hsz i
  induction i using Nat.strongRecOn with
  | _ i ih =>
   intro hi hf
   obtain ⟨o, ho⟩ : ∃ o, l[i]? = some o := ⟨l[i], by simp [hi]⟩
   by_cases hall : ∀ e ∈ o.after, Region.binds .any e = true → listed.getD e.on false = true
   ·refine ⟨i, Nat.le_refl _, mem_ready.2 ⟨?_, o, by rw [hget]; exact ho, hall⟩⟩
    have : i < listed.size := by omega
    simpa [this] using hf
   ·have : ∃ e, e ∈ o.after ∧ Region.binds .any e = true ∧ listed.getD e.on false = false := by
     refine Classical.byContradiction fun hno => hall fun e he hb => ?_
     cases hv : listed.getD e.on false with
     | true => rfl
     | false => exact (hno ⟨e, he, hb, hv⟩).elim
    obtain ⟨e, he, hb, hv⟩ := this
    have hlt := hedge i o ho e he hb
    rw [Nat.zero_add] at hlt
    obtain ⟨j, hj, hr⟩ := ih e.on hlt (by omega) hv
    exact ⟨j, by omega, hr⟩
 have hdst : ∀ i o, l[i]? = some o → nth (dsts l) i = o.dst := fun i o ho => by rw [dsts_get, ho]; rfl
 have hdin : ∀ i t, nth (dsts l) i = some t → t < ns := fun i t ht => by
  rw [dsts_get] at ht
  cases ho : l[i]? with
  | none => simp [ho] at ht
  | some o =>
   simp only [ho, Option.bind_some] at ht
   have := List.all_eq_true.1 hd o (List.mem_of_getElem? ho)
   simpa [dstIn, ht] using this
 have tailW : ∀ (fuel j : Nat) (listed : Array Bool) (stj : St) (a : Act) (w : World), m ≤ j → j + fuel = l.length → listed.size = l.length → (∀ i, listed.getD i false = decide (i < j)) → 
   Inv O base okc ns (stj.nid + j) outs stj a w → opsVC P O (inlOk true l = true) (dsts l) (l.drop j) j stj K → wpAnyIn (FR ro) 0 P .any ops Q fuel listed a w := by
  intro fuel
  induction fuel with
  | zero =>
   intro j listed stj a w hmj hjn hsz hlis hinv hvc
   have : l.drop j = [] := by rw [List.drop_eq_nil_iff]; omega
   rw [this] at hvc
   have hjl' : j = l.length := by omega
   refine ⟨?_, hK stj a w hvc (by rw [← hjl']; exact hinv)⟩
   cases hr : Region.ready .any ops listed with
   | nil => rfl
   | cons x xs =>
    have := hready listed x hsz (by rw [hr]; exact List.mem_cons_self)
    rw [hlis] at this
    simp at this
    omega
  | succ fuel ih =>
   intro j listed stj a w hmj hjn hsz hlis hinv hvc
   have hjl : j < l.length := by omega
   obtain ⟨o, ho⟩ : ∃ o, l[j]? = some o := ⟨l[j], by simp [hjl]⟩
   have hdrop : l.drop j = o :: l.drop (j + 1) := by
    rw [List.drop_eq_getElem_cons hjl]
    congr 1
    have := List.getElem?_eq_getElem hjl
    rw [ho] at this; simpa using this.symm
   rw [hdrop] at hvc
   refine ⟨fun h => ?_, fun i hi => ?_⟩
   ·obtain ⟨x, hx, hr⟩ := hleast listed hsz j hjl (by rw [hlis]; simp)
    rw [h] at hr; cases hr
   ·obtain ⟨hil, hif, oi, hoi, hie⟩ := hready listed i hsz hi
    have hij : i = j := by
     rw [hlis] at hif
     simp at hif
     refine Classical.byContradiction fun hne => ?_
     have hlt : j < i := by omega
     have hcl : Closed l (fun x => listed.getD x false) := by
      intro x ox hox hS e he hb
      dsimp only at hS ⊢
      rw [hlis] at hS ⊢
      simp only [decide_eq_true_eq] at hS ⊢
      have := hedge x ox hox e he hb
      omega
     have hb : ((masks [] l).getD i 0).testBit j = true := by
      rw [htail i hil (by omega), Nat.testBit_two_pow_sub_one]
      simpa using hlt
     have := masks_closed (hclosed _ i hcl ⟨oi, hoi, hie⟩) hb (by simp)
     simp only [hlis, Bool.or_eq_true, decide_eq_true_eq] at this
     omega
    subst hij
    rw [ho] at hoi; cases hoi
    obtain ⟨r, hinv⟩ := hinv
    have hgo := guard_ok (ops := ops) (st := stj) (a := a) (w := w) hinv (o := o) (by rw [hl]; exact hvc)
    obtain ⟨st', hnid', hinv', hcase⟩ := hgo
    have hdo : dstIn ns o = true := List.all_eq_true.1 hd o (List.mem_of_getElem? ho)
    have hset : ∀ x, (listed.setIfInBounds i true).getD x false = decide (x < i + 1) := fun x => by
     rw [getD_set (by omega), hlis]
     by_cases h1 : x < i <;> by_cases h2 : x = i <;> simp [h1, h2] <;> omega
    unfold wpOpIn
    simp only [hget, ho]
    rcases hcase with ⟨hw, hrun⟩ | ⟨hw, hskip⟩
    ·rw [if_pos hw]
     refine res_ok (i := i) (st := st') (r := r) (by rw [hnid']; exact hinv') hdo (by exact hrun) fun st2 a2 w2 hk2 hn2 _ h2 => ?_
     exact ih (i + 1) _ st2 a2 w2 (by omega) (by omega) (by simpa using hsz) hset h2 hk2
    ·rw [if_neg (by rw [hw]; simp)]
     have hd' : ∀ t, o.dst = some t → t < ns := fun t ht => by simpa [dstIn, ht] using hdo
     have h1 : InvR O base okc ns (stj.nid + i) r outs (st'.put o.dst undefSV) (a.put o.dst undef) w := hinv'.step (Step.refl hinv'.sat) hinv'.keys (Nat.le_refl _) hd' (.val _)
     exact ⟨fun _ _ => trivial, ih (i + 1) _ _ _ _ (by omega) (by omega) (by simpa using hsz) hset (by rw [put_nid, hnid']; exact ⟨r, h1.more (by omega)⟩) hskip⟩
 have preW : ∀ (fuel : Nat) (listed : Array Bool) (a : Act) (w : World), listed.size = l.length → Closed l (fun i => listed.getD i false) → (∀ i, m ≤ i → listed.getD i false = false) → cnt (fun i => listed.getD i false) l.length = fuel →
   Mid O outs base okc ns st.nid m st1.hp (nth (dsts l)) (resOf rs) (look st.fr) (fun i => listed.getD i false) a w → wpAnyIn (FR ro) 0 P .any ops Q fuel listed a w := by
  intro fuel
  induction fuel with
  | zero =>
   intro listed a w hsz hcl hlate hcnt hmid
   have hall := cnt_zero hcnt
   have hml' : m = l.length := by
    refine Classical.byContradiction fun hne => ?_
    have := hall m (by omega)
    rw [hlate m (Nat.le_refl _)] at this
    cases this
   obtain ⟨r, hsat, hrep, hsize, hdef⟩ := hmid
   refine tailW 0 m listed st1 a w (Nat.le_refl _) (by omega) hsz (fun i => ?_) ?_ hk1
   ·by_cases h : i < m
    ·simp only [h, decide_true]; exact hall i (by omega)
    ·simp only [h, decide_false]; exact hlate i (by omega)
   ·have e1 : NS st.nid m (fun i => listed.getD i false) = (· < st.nid + m) := by
     funext x
     simp only [NS, eq_iff_iff]
     constructor
     ·rintro (h | ⟨j, h1, _, h3⟩) <;> omega
     ·intro h
      by_cases hx : x < st.nid
      ·exact .inl hx
      ·exact .inr ⟨x - st.nid, by omega, hall _ (by omega), by omega⟩
    rw [e1] at hsat hrep hdef
    rw [hn1]
    refine ⟨r, hsat, fun x y hy => ?_, fun t => ?_, hsize, Nat.le_trans h0.lo (by omega), hdef.out, hdef.rfix, hdef.defers⟩
    ·rcases hkeys x y hy with h | ⟨j, _, _, _, e, hj⟩
     ·have := h0.keys x y h; omega
     ·omega
    ·have := hrep t
     rw [hF1]
     have e2 : FS (nth (dsts l)) (resOf rs) (fun i => listed.getD i false) (look st.fr) m t = FS (nth (dsts l)) (resOf rs) (fun _ => true) (look st.fr) m t :=
      FS_at (Nat.le_refl _) fun j hj _ => by simp only [hj, iff_true]; exact hall j (by omega)
     rw [← e2]; exact this
  | succ fuel ih =>
   intro listed a w hsz hcl hlate hcnt hmid
   by_cases hall : ∀ i, i < m → listed.getD i false = true
   ·
    have hc := cnt_tail (S := fun i => listed.getD i false) hall hlate hml
    obtain ⟨r, hsat, hrep, hsize, hdef⟩ := hmid
    refine tailW (fuel + 1) m listed st1 a w (Nat.le_refl _) (by omega) hsz (fun i => ?_) ?_ hk1
    ·by_cases h : i < m
     ·simp only [h, decide_true]; exact hall i h
     ·simp only [h, decide_false]; exact hlate i (by omega)
    ·have e1 : NS st.nid m (fun i => listed.getD i false) = (· < st.nid + m) := by
      funext x
      simp only [NS, eq_iff_iff]
      constructor
      ·rintro (h | ⟨j, h1, _, h3⟩) <;> omega
      ·intro h
       by_cases hx : x < st.nid
       ·exact .inl hx
       ·exact .inr ⟨x - st.nid, by omega, hall _ (by omega), by omega⟩
     rw [e1] at hsat hrep hdef
     rw [hn1]
     refine ⟨r, hsat, fun x y hy => ?_, fun t => ?_, hsize, Nat.le_trans h0.lo (by omega), hdef.out, hdef.rfix, hdef.defers⟩
     ·rcases hkeys x y hy with h | ⟨j, _, _, _, e, hj⟩
      ·have := h0.keys x y h; omega
      ·omega
     ·have := hrep t
      rw [hF1]
      have e2 : FS (nth (dsts l)) (resOf rs) (fun i => listed.getD i false) (look st.fr) m t = FS (nth (dsts l)) (resOf rs) (fun _ => true) (look st.fr) m t :=
       FS_at (Nat.le_refl _) fun j hj _ => by simp only [hj, iff_true]; exact hall j hj
      rw [← e2]; exact this
   ·obtain ⟨x, hx⟩ : ∃ x, x < m ∧ listed.getD x false = false := by
     refine Classical.byContradiction fun hno => hall fun i hi => ?_
     cases hv : listed.getD i false with
     | true => rfl
     | false => exact (hno ⟨i, hi, hv⟩).elim
    refine ⟨fun h => ?_, fun i hi => ?_⟩
    ·obtain ⟨y, _, hr⟩ := hleast listed hsz x (by omega) hx.2
     rw [h] at hr; cases hr
    ·obtain ⟨hil, hif, o, ho, hie⟩ := hready listed i hsz hi
     have hcl' := hclosed _ i hcl ⟨o, ho, hie⟩
     have him : i < m := by
      refine Classical.byContradiction fun hne => ?_
      have hb : ((masks [] l).getD i 0).testBit x = true := by
       rw [htail i hil (by omega), Nat.testBit_two_pow_sub_one]
       simp; omega
      have := masks_closed hcl' hb (by simp)
      simp only [Bool.or_eq_true, decide_eq_true_eq] at this
      rcases this with h | h
      ·rw [hx.2] at h; cases h
      ·omega
     have hlook : ∀ t, t ∈ seen (dsts l) o → FS (nth (dsts l)) (resOf rs) (fun i => listed.getD i false) (look st.fr) m t = FS (nth (dsts l)) (resOf rs) (fun _ => true) (look st.fr) i t := by
      intro t ht
      refine FS_at (by omega) fun j hj hdj => ?_
      obtain ⟨oj, hoj⟩ : ∃ oj, l[j]? = some oj := ⟨l[j], by simp [show j < l.length by omega]⟩
      constructor
      ·intro hS
       refine Classical.byContradiction fun hge => ?_
       by_cases e : j = i
       ·subst e
        rw [hif] at hS; cases hS
       ·rcases apartOk_spec hapart ho hoj (by omega) with hb | ⟨_, hb⟩
        ·have := masks_closed hcl hb hS
         rw [hif] at this; cases this
        ·exact hb t hdj ht
      ·intro hlt
       rcases apartOk_spec hapart hoj ho hlt with hb | ⟨hb, _⟩
       ·have := masks_closed hcl' hb (by simp)
        simp only [Bool.or_eq_true, decide_eq_true_eq] at this
        exact this.resolve_right (by omega)
       ·exact (hb t hdj ht).elim
     obtain ⟨wt, sv, nb, hpj, hrs, hsubj, hcase⟩ := hop i o him ho
     have hri : resOf rs i = sv := by simp [resOf, hrs]
     obtain ⟨r, hsat, hrep, hsize, hdef⟩ := hmid
     have hdsti := hdst i o ho
     have hS : ∀ x, (listed.setIfInBounds i true).getD x false = (listed.getD x false || decide (x = i)) := fun x => getD_set (by omega)
     have hlater : ∀ t, nth (dsts l) i = some t → ∀ j, j < m → i < j → nth (dsts l) j = some t → listed.getD j false = false := by
      intro t hdi j hj hij hdj
      obtain ⟨oj, hoj⟩ : ∃ oj, l[j]? = some oj := ⟨l[j], by simp [show j < l.length by omega]⟩
      cases hv : listed.getD j false with
      | false => rfl
      | true =>
       rcases apartOk_spec hapart ho hoj hij with hb | ⟨_, hb⟩
       ·have := masks_closed hcl hb hv
        rw [hif] at this; cases this
       ·refine (hb t hdj ?_).elim
        simp only [seen, List.mem_append]
        rw [hdsti] at hdi
        simp [hdi]
     have next : ∀ (v : Value) (r' : Nat → Option Nat) (w' : World), Step base okc r (NS st.nid m fun i => listed.getD i false) st1.hp w r' (NS st.nid m fun x => (listed.setIfInBounds i true).getD x false) st1.hp w' →
       Rep r' (NS st.nid m fun x => (listed.setIfInBounds i true).getD x false) (Gd base okc r' (NS st.nid m fun x => (listed.setIfInBounds i true).getD x false) st1.hp w') w' sv v →
       wpAnyIn (FR ro) 0 P .any ops Q fuel (listed.setIfInBounds i true) (a.put o.dst v) w' := by
      intro v r' w' hs hv
      refine ih _ _ _ (by simpa using hsz) ?_ (fun x hx => ?_) ?_ ?_
      ·have : (fun x => (listed.setIfInBounds i true).getD x false) = fun x => listed.getD x false || decide (x = i) := funext hS
       rw [this]; exact hcl'
      ·rw [hS, hlate x hx]; simp; omega
      ·have := (cnt_set (S := fun i => listed.getD i false) (S' := fun x => (listed.setIfInBounds i true).getD x false) hS hif (n := l.length)).2 hil
       omega
      ·rw [← hdsti]
       exact mid_put hS him hlater hrep hsize hdef h0.lo (hdin i) hs (by rw [hri]; exact hv)
     have hmore : (∀ b, nb ≠ some b) → Step base okc r (NS st.nid m fun i => listed.getD i false) st1.hp w r (NS st.nid m fun x => (listed.setIfInBounds i true).getD x false) st1.hp w := by
      intro hnb
      rw [← NS_set hS him]
      refine hsat.more (fun x hx => .inl hx) fun x y hy hx => ?_
      rcases hx with hx | hx
      ·exact hx
      ·subst hx
       rcases hkeys _ _ hy with h | ⟨j, wt', sv', hj, e, _⟩
       ·have := h0.keys _ _ h; omega
       ·have : j = i := by omega
        subst this
        rw [hrs] at hj
        cases hj
        exact (hnb _ rfl).elim
     have hguard : ∀ b, gval (dsts l) o.guard (FS (nth (dsts l)) (resOf rs) (fun _ => true) (look st.fr) i) = some b → Region.wanted o (yielded ops a.tmps) = b := by
      intro b hg
      cases hog : o.guard with
      | none => rw [hog] at hg; simp only [gval, Option.some.injEq] at hg; subst hg; simp [Region.wanted, hog]
      | some gw =>
       obtain ⟨j, want⟩ := gw
       rw [hog] at hg
       simp only [gval] at hg
       cases ht : nth (dsts l) j with
       | none => simp [ht] at hg
       | some t =>
        have hy := yielded_eq ops a j t (by rw [hl]; exact ht)
        have htn : t ∈ seen (dsts l) o := by simp [seen, gTmps, hog, ht]
        have hrt := hrep t
        rw [hlook t htn] at hrt
        simp only [ht] at hg
        cases hv : FS (nth (dsts l)) (resOf rs) (fun _ => true) (look st.fr) i t with
        | val u =>
         rw [hv] at hg hrt
         have hu : a.tmps.getD t undef = u := by generalize a.tmps.getD t undef = z at hrt; cases hrt; rfl
         simp only [Array.getD_eq_getD_getElem?] at hu
         cases u with
         | bool c =>
          have : yielded ops a.tmps j = some c := by
           rw [hy]
           cases hz : a.tmps[t]? with
           | none => rw [hz] at hu; simp [undef] at hu
           | some z => rw [hz] at hu; simp at hu; rw [hu]
          simp only [Option.some.injEq] at hg
          subst hg
          simp only [Region.wanted, hog, this]
          cases c <;> cases want <;> rfl
         | tuple vs =>
          have : yielded ops a.tmps j = none := by
           rw [hy]
           cases hz : a.tmps[t]? with
           | none => rfl
           | some z => rw [hz] at hu; simp at hu; rw [hu]
          simp only [Option.some.injEq] at hg
          subst hg
          simp [Region.wanted, hog, this]
         | _ => simp at hg
        | _ => rw [hv] at hg; simp at hg
     unfold wpOpIn
     simp only [hget, ho]
     rcases hcase with ⟨_, hg, rfl, rfl⟩ | ⟨_, hg, hrun, hnb⟩
     ·rw [if_neg (by rw [hguard _ hg]; simp)]
      exact ⟨fun _ _ => trivial, next undef r w (hmore (by simp)) (.val _)⟩
     ·rw [if_pos (hguard _ hg)]
      have hca : calm o.op = true := hcalm o (by
       have : (l.take m)[i]? = some o := by rw [List.getElem?_take_of_lt him]; exact ho
       exact List.mem_of_getElem? this)
      have hnd : ∀ c, o.op ≠ .defer c := fun c e => by rw [e] at hca; cases hca
      refine wpIn_of_wp hnd (step_ok hsat (fr := FS (nth (dsts l)) (resOf rs) (fun _ => true) (look st.fr) i) (id := st.nid + i) (hp' := st1.hp) (fun x hx => rep_env x fun t ht => ?_) ?_)
      ·subst ht
       rw [← hlook t (by
        simp only [seen, List.mem_append]
        exact .inl (List.mem_filterMap.2 ⟨.tmp t, by simpa using hx, rfl⟩))]
       exact hrep t
      ·cases hrun with
       | pure obl _ hst hobl =>
        rw [stepR_mono hca hsubj (by rw [hst]; simp), hst]
        refine ⟨hobl, fun v hv => next v r w (hmore (by simp)) ((hmore (by simp)).rep hv)⟩
       | ex obl _ hst hobl =>
        rw [stepR_mono hca hsubj (by rw [hst]; simp), hst]
        exact ⟨sv, hobl, fun v hv => next v r w (hmore (by simp)) ((hmore (by simp)).rep hv)⟩
       | new obl b mk hst hobl =>
        rw [stepR_mono hca hsubj (by rw [hst]; simp), hst]
        refine ⟨hobl, ?_, hnb b rfl, fun _ _ => rfl, fun v w' r' hs hv => ?_⟩
        ·rintro (h | ⟨j, h1, h2, h3⟩)
         ·omega
         ·have : j = i := by omega
          subst this
          dsimp only at h2
          rw [hif] at h2; cases h2
        ·rw [NS_set hS him] at hs hv
         exact next v r' w' hs hv
       | call f args pats _ hst hc hs =>
        rw [stepR_mono hca hsubj (by rw [hst]; simp), hst]
        refine .inl ⟨pats, sv, hc, hs.imp (fun h => ⟨subL_mono hsubj _ _ h.1, h.2⟩) (fun h => h), fun v w' hst' hv => ?_⟩
        refine next v r w' (hst'.trans ?_) ?_
        ·rw [← NS_set hS him]
         refine hst'.sat.more (fun x hx => .inl hx) fun x y hy hx => ?_
         rcases hx with hx | hx
         ·exact hx
         ·subst hx
          rcases hkeys _ _ hy with h | ⟨j, wt', sv', hj, e, _⟩
          ·have := h0.keys _ _ h; omega
          ·have : j = i := by omega
           subst this
           rw [hrs] at hj
           cases hj
        ·rw [← NS_set hS him]
         refine (hst'.sat.more (fun x hx => .inl hx) fun x y hy hx => ?_).rep hv
         rcases hx with hx | hx
         ·exact hx
         ·subst hx
          rcases hkeys _ _ hy with h | ⟨j, wt', sv', hj, e, _⟩
          ·have := h0.keys _ _ h; omega
          ·have : j = i := by omega
           subst this
           rw [hrs] at hj
           cases hj
       | callN f args pats b res hst hc hs =>
        rw [stepR_mono hca hsubj (by rw [hst]; simp), hst]
        refine .inr ⟨pats, b, res, hc, hs.mono hsubj, ?_, st1.hp, hnb b rfl, fun _ _ => rfl, fun v w' r' hs hv => ?_⟩
        ·rintro (h | ⟨j, h1, h2, h3⟩)
         ·omega
         ·have : j = i := by omega
          subst this
          dsimp only at h2
          rw [hif] at h2; cases h2
        ·rw [NS_set hS him] at hs hv
         exact next v r' w' hs hv
 refine wpIn_region_any hm ?_
 rw [hn]
 have hrep0 : ∀ i, (Array.replicate l.length false).getD i false = false := fun i => by simp only [Array.getD_eq_getD_getElem?, Array.getElem?_replicate]; split <;> rfl
 refine preW l.length (Array.replicate l.length false) a _ (by simp) ?_ (fun i _ => hrep0 i) ?_ ?_
 ·intro j o ho hS; simp only [hrep0] at hS; cases hS
 ·have key : ∀ n, cnt (fun i => (Array.replicate l.length false).getD i false) n = n := by
   intro n
   induction n with
   | zero => rfl
   | succ n ihn =>
    simp only [cnt, ihn]
    rw [if_neg (by rw [hrep0]; simp)]
  exact key _
 ·have hN : NS st.nid m (fun i => (Array.replicate l.length false).getD i false) = (· < st.nid) := by
   funext x
   simp only [NS, eq_iff_iff]
   constructor
   ·rintro (h | ⟨j, _, h2, _⟩)
    ·exact h
    ·rw [hrep0] at h2; cases h2
   ·exact .inl
  have hdrew : Below w.heap.size w { w with drawn := w.drawn + 1 } := ⟨rfl, rfl, rfl, Nat.le_refl _, fun _ _ => rfl⟩
  have hst := h0.sat.grow hdrew
  unfold Mid
  rw [hN]
  have hs2 : Step base okc r0 (· < st.nid) st.hp { w with drawn := w.drawn + 1 } r0 (· < st.nid) st1.hp { w with drawn := w.drawn + 1 } := by
   have hback : ∀ x y, blk st1.hp x = some y → x < st.nid → blk st.hp x = some y := fun x y hy hx => by
    rcases hkeys x y hy with h | ⟨j, _, _, _, e, _⟩
    ·exact h
    ·omega
   have hG : ∀ o c, Gd base okc r0 (· < st.nid) st.hp { w with drawn := w.drawn + 1 } o c → Gd base okc r0 (· < st.nid) st1.hp { w with drawn := w.drawn + 1 } o c ∧ ({ w with drawn := w.drawn + 1 } : World).heap[c]? = ({ w with drawn := w.drawn + 1 } : World).heap[c]? :=
    fun o c ⟨h1, h2, h3⟩ => ⟨⟨h1, fun i y hy hi => h2 i y (hback i y hy hi) hi, h3⟩, rfl⟩
   exact ⟨⟨hst.sat.below, fun i y hy hi => (hst.sat.rep i y (hback i y hy hi) hi).mono (fun _ _ => rfl) (fun _ h => h) hG (Shapes.refl _) (fun _ _ => rfl),
    fun i y b hy hi => hst.sat.own i y b (hback i y hy hi) hi, fun i y i' y' b hy hi hy' hi' => hst.sat.inj i y i' y' b (hback i y hy hi) hi (hback i' y' hy' hi') hi'⟩, fun _ _ => rfl, fun _ h => h, hG, Shapes.refl _⟩
  refine ⟨r0, hs2.sat, fun t => ?_, h0.size, ((Ext.mk h0.out h0.rfix h0.defers).step0 hst (fun i hi => Nat.lt_of_lt_of_le hi h0.lo)).step0 hs2 (fun i hi => Nat.lt_of_lt_of_le hi h0.lo)⟩
  have e : FS (nth (dsts l)) (resOf rs) (fun i => (Array.replicate l.length false).getD i false) (look st.fr) m t = look st.fr t := by
   have := FS_at (dst := nth (dsts l)) (res := resOf rs) (S := fun i => (Array.replicate l.length false).getD i false) (F := look st.fr) (i := 0) (t := t) (Nat.zero_le m) (fun j hj _ => by rw [hrep0]; simp)
   exact this
  rw [e]
  exact hs2.rep (hst.rep (h0.fr t))
end
end Go.Sx
end
section
set_option linter.unusedVariables false
set_option linter.unusedSimpArgs false
namespace Go.Sx
open Go.RowKit
def isUpd : Op → Bool
 | .store _ _ _ => true
 | .mapUpdate _ _ _ _ => true
 | .insert _ _ _ _ => true
 | .call ⟨.builtin .delete, _, _⟩ => true
 | .call ⟨.builtin .clear, _, _⟩ => true
 | _ => false
def reads : Op → Bool
 | .load _ _ => true
 | .lookup _ _ _ _ => true
 | .call ⟨.value _, _, _⟩ => true
 | _ => false
def noneFrom (ds : List (Option Tmp)) (i a : Nat) : Bool := (List.range ds.length).all fun k => decide (k < i) || (match nth ds k with | some t => !decide (t = a) | none => true)
def farOk (far : List (Nat × Nat)) (ds : List (Option Tmp)) (i j : Nat) (oi oj : Oper) : Bool :=
 match oi.op with
 | .load _ (.tmp a) => match oj.op with
  | .store _ (.tmp b) _ => far.any (fun p => decide (p.1 = a) && decide (p.2 = b)) && noneFrom ds i a && noneFrom ds j b
  | _ => false
 | _ => false
def pairOk (far : List (Nat × Nat)) (ds : List (Option Tmp)) (ms : List Nat) (ops : List Oper) : Bool :=
 (List.range ops.length).all fun j => match ops[j]? with
  | none => true
  | some oj => (List.range j).all fun i => (ms.getD j 0).testBit i || match ops[i]? with
   | none => true
   | some oi => !((isUpd oi.op && isUpd oj.op) || (reads oi.op && isUpd oj.op) || (isUpd oi.op && reads oj.op)) || farOk far ds i j oi oj
def drawOk2 (far : List (Nat × Nat)) (ops : List Oper) : Bool :=
 let ms := masks [] ops
 edgesOk 0 ops && apartOk (dsts ops) ms ops && pairOk far (dsts ops) ms ops && ops.all (fun o => calm o.op || isUpd o.op) && !inlOk true ops
theorem noneFrom_spec {ds : List (Option Tmp)} {i a : Nat} (h : noneFrom ds i a = true) {k : Nat} (hk : k < ds.length) (hi : i ≤ k) : nth ds k ≠ some a := by
 intro e
 simp only [noneFrom, List.all_eq_true, List.mem_range] at h
 have := h k hk
 rw [e] at this
 simp at this
 omega
def FarP (far : List (Nat × Nat)) (ds : List (Option Tmp)) (i j : Nat) (oi oj : Oper) : Prop :=
 ∃ t a t' b y, oi.op = .load t (.tmp a) ∧ oj.op = .store t' (.tmp b) y ∧ (a, b) ∈ far ∧ noneFrom ds i a = true ∧ noneFrom ds j b = true
theorem farOk_spec {far : List (Nat × Nat)} {ds : List (Option Tmp)} {i j : Nat} {oi oj : Oper} (h : farOk far ds i j oi oj = true) : FarP far ds i j oi oj := by
 unfold farOk at h
 split at h
 ·rename_i t a e
  split at h
  ·rename_i t' b y e'
   simp only [Bool.and_eq_true, List.any_eq_true, decide_eq_true_eq] at h
   obtain ⟨⟨⟨p, hp, h1, h2⟩, h3⟩, h4⟩ := h
   refine ⟨t, a, t', b, y, e, e', ?_, h3, h4⟩
   rw [← h1, ← h2]; exact hp
  ·cases h
 ·cases h
theorem pairOk_spec {far : List (Nat × Nat)} {ds : List (Option Tmp)} {ms : List Nat} {ops : List Oper} (h : pairOk far ds ms ops = true) {i j : Nat} {oi oj : Oper} (hi : ops[i]? = some oi) (hj : ops[j]? = some oj) (hij : i < j) :
  (ms.getD j 0).testBit i = true ∨ (¬ (isUpd oi.op = true ∧ isUpd oj.op = true) ∧ ¬ (reads oi.op = true ∧ isUpd oj.op = true) ∧ ¬ (isUpd oi.op = true ∧ reads oj.op = true)) ∨ FarP far ds i j oi oj := by
 simp only [pairOk, List.all_eq_true, List.mem_range] at h
 have h1 := h j (List.getElem?_eq_some_iff.1 hj).1
 rw [hj] at h1
 simp only [List.all_eq_true, List.mem_range] at h1
 have h2 := h1 i hij
 rw [hi] at h2
 simp only [Bool.or_eq_true] at h2
 rcases h2 with h2 | h2 | h2
 ·exact .inl h2
 ·right; left
  simp only [Bool.not_eq_true', Bool.or_eq_false_iff, Bool.and_eq_false_iff] at h2
  obtain ⟨⟨a, b⟩, c⟩ := h2
  refine ⟨fun ⟨x, y⟩ => ?_, fun ⟨x, y⟩ => ?_, fun ⟨x, y⟩ => ?_⟩
  ·rcases a with a | a <;> simp_all
  ·rcases b with a | a <;> simp_all
  ·rcases c with a | a <;> simp_all
 ·exact .inr (.inr (farOk_spec h2))
theorem stepR_upd {P : Program} {F : Nat → SV} {hp : List (Nat × Blk)} {op : Op} {obl : Prop} {j : Nat} {b : Blk} (h : stepR P F hp op = .upd obl j b) : isUpd op = true := by
 cases op <;> first | rfl | (simp only [stepR] at h; cases h; done) | (simp only [stepR] at h)
 case pick => unfold rPick at h; split at h <;> cases h
 case alloc => unfold rAlloc at h; split at h <;> cases h
 case box => unfold rBox at h; (repeat' split at h) <;> cases h
 case load => unfold rLoad at h; (repeat' split at h) <;> cases h
 case nilCheck => unfold rNil at h; split at h <;> cases h
 case binOp => unfold rBin at h; (repeat' split at h) <;> first | (cases h; done) | (rcases rNilS_form P _ _ _ _ _ with ⟨_, _, e⟩ | e <;> rw [e] at h <;> cases h) | (unfold rInt at h; split at h <;> cases h) | (unfold rEq at h; (repeat' split at h) <;> cases h)
 case unOp => unfold rUn at h; split at h <;> cases h
 case convert => unfold rConv at h; split at h <;> cases h
 case fieldAddr => unfold rFieldAddr at h; (repeat' split at h) <;> cases h
 case field => unfold rField at h; (repeat' split at h) <;> cases h
 case indexAddr => unfold rIndexAddr at h; (repeat' split at h) <;> cases h
 case extract => unfold rExtract at h; split at h <;> cases h
 case build => have := congrArg stays h; rw [rBuild_stays] at this; cases this
 case buildSlice => rcases rBuildSlice_form (P := P) _ _ _ with ⟨_, _, _, e⟩ | e <;> rw [e] at h <;> cases h
 case makeSlice => rcases rMakeSlice_form (P := P) _ _ _ with ⟨_, _, _, e⟩ | e <;> rw [e] at h <;> cases h
 case slice => have := congrArg stays h; rw [rSlice_stays] at this; cases this
 case makeMap => rcases rMakeMap_form _ _ with ⟨_, _, _, e⟩ | e <;> rw [e] at h <;> cases h
 case lookup => have := congrArg stays h; rw [rLookup_stays] at this; cases this
 case index => have := congrArg stays h; rw [rIndex_stays] at this; cases this
 case call c =>
  obtain ⟨callee, args, ts⟩ := c
  cases callee with
  | value f => simp only [rCall] at h; split at h <;> cases h
  | invoke _ _ => simp only [rCall] at h; cases h
  | builtin b =>
   cases b <;> first | rfl | (simp only [rCall] at h; done) | skip
   all_goals simp only [rCall] at h
   all_goals first | (cases h; done) | skip
   case append => (repeat' split at h) <;> first | (cases h; done) | (rcases rAppend_form (P := P) (hp := hp) _ _ _ with ⟨_, _, _, e⟩ | ⟨_, _, _, _, e⟩ | e <;> rw [e] at h <;> cases h)
   case copy => split at h <;> first | (cases h; done) | (rcases rCopy_form (P := P) (hp := hp) _ _ _ with ⟨_, _, _, _, e⟩ | e <;> rw [e] at h <;> cases h)
   case len => split at h <;> first | (cases h; done) | (unfold rLen at h; (repeat' split at h) <;> cases h)
   case max => unfold rMin at h; (repeat' split at h) <;> cases h
   case min => unfold rMin at h; (repeat' split at h) <;> cases h
theorem upd_N {P : Program} {F : Nat → SV} {hp : List (Nat × Blk)} {op : Op} {obl : Prop} {j : Nat} {b : Blk} (h : stepR P F hp op = .upd obl j b) {r : Nat → Option Nat} {N : Nat → Prop} {G : Bool → Nat → Prop} {w : World} {a : Act}
  (ha : ∀ x, x ∈ op.operands → Rep r N G w (env F x) (a.eval x)) : N j := by
 have hu := stepR_upd h
 cases op <;> first | (simp [isUpd] at hu; done) | skip
 case store t x y =>
  simp only [stepR] at h
  have hx := ha x (by simp [Op.operands])
  unfold rStore at h
  split at h
  ·split at h
   ·rename_i id off hxe
    rw [hxe] at hx
    split at h <;> cases h
    generalize a.eval x = u at hx
    cases hx with | ptr _ _ _ hN _ => exact hN
   ·rename_i id k i l hxe
    rw [hxe] at hx
    split at h <;> cases h
    generalize a.eval x = u at hx
    cases hx with | elt _ _ _ _ _ hN _ => exact hN
   ·cases h
  ·split at h
   ·split at h
    ·rename_i id off hxe
     rw [hxe] at hx
     split at h <;> cases h
     generalize a.eval x = u at hx
     cases hx with | ptr _ _ _ hN _ => exact hN
    ·rename_i id k i l hxe
     rw [hxe] at hx
     split at h <;> cases h
     generalize a.eval x = u at hx
     cases hx with | elt _ _ _ _ _ hN _ => exact hN
    ·cases h
   ·cases h
  ·cases h
 case mapUpdate t m k x => exact upd (ha m (by simp [Op.operands])) (by simpa only [stepR] using h)
 case insert t m k x => exact upd (ha m (by simp [Op.operands])) (by simpa only [stepR] using h)
 case call c =>
  obtain ⟨callee, args, ts⟩ := c
  cases callee with
  | value f => simp [isUpd] at hu
  | invoke _ _ => simp [isUpd] at hu
  | builtin bb =>
   cases bb <;> first | (simp [isUpd] at hu; done) | skip
   case clear =>
    simp only [stepR, rCall] at h
    split at h
    rotate_left
    ·cases h
    rename_i d t hargs hts
    have hd := ha d (by simp [Op.operands, Call.operands, list1 hargs])
    split at h
    ·rename_i mid hmid
     rw [hmid] at hd
     have : mid = j := by
      unfold rClearMap at h
      (repeat' split at h) <;> first | (cases h; done) | (simp only [Res.upd.injEq] at h; rename_i _ _ e _; simp only [SV.mp.injEq] at e; rw [e]; exact h.2.1) | skip
      all_goals (simp only [Res.upd.injEq] at h; simp_all)
     subst this
     generalize a.eval d = u at hd
     cases hd with | mp _ _ hN _ => exact hN
    ·generalize env F d = s at h hd
     generalize a.eval d = u at hd
     unfold rClear at h
     (repeat' split at h) <;> first | (cases h; done) | (simp only [Res.upd.injEq] at h; obtain ⟨_, rfl, _⟩ := h; cases hd <;> assumption)
   case delete =>
    simp only [stepR, rCall] at h
    split at h
    rotate_left
    ·cases h
    rename_i m k t t' hargs hts
    have hm := ha m (by simp [Op.operands, Call.operands, list2 hargs])
    generalize env F m = s at h hm
    generalize a.eval m = u at hm
    unfold rDelete at h
    (repeat' split at h) <;> first | (cases h; done) | (simp only [Res.upd.injEq] at h; obtain ⟨_, rfl, _⟩ := h; cases hm; assumption)
where
 upd {F : Nat → SV} {hp : List (Nat × Blk)} {mi : Option MapI} {m k x : Operand} {obl : Prop} {j : Nat} {b : Blk} {r : Nat → Option Nat} {N : Nat → Prop} {G : Bool → Nat → Prop} {w : World} {a : Act}
   (hm : Rep r N G w (env F m) (a.eval m)) (h : rUpdate mi hp (env F m) (env F k) (env F x) = .upd obl j b) : N j := by
  generalize env F m = s at h hm
  generalize a.eval m = u at hm
  unfold rUpdate at h
  (repeat' split at h) <;> first | (cases h; done) | (simp only [Res.upd.injEq] at h; obtain ⟨_, rfl, _⟩ := h; cases hm; assumption)
section
variable {P : Program} {hp hp' : List (Nat × Blk)}
theorem rStore_mono (h : ∀ id x, blk hp id = some x → blk hp' id = some x) {ti : Option TyI} {a v : SV} (hne : rStore ti hp a v ≠ .bad) : rStore ti hp' a v = rStore ti hp a v := by
 match ti with
 | none => rfl
 | some ⟨false, sz, z, d⟩ =>
  cases a <;> first | rfl | skip
  case ptr id off =>
   simp only [rStore] at hne ⊢
   cases hb : blk hp id with
   | none => rw [hb] at hne; exact absurd rfl hne
   | some y => rw [h _ _ hb]
  case elt id k i j =>
   simp only [rStore] at hne ⊢
   cases hb : blk hp id with
   | none => rw [hb] at hne; exact absurd rfl hne
   | some y => rw [h _ _ hb]
 | some ⟨true, sz, z, d⟩ =>
  cases v <;> first | rfl | skip
  cases a <;> first | rfl | skip
  case ptr id off =>
   simp only [rStore] at hne ⊢
   cases hb : blk hp id with
   | none => rw [hb] at hne; exact absurd rfl hne
   | some y => rw [h _ _ hb]
  case elt id k i j =>
   simp only [rStore] at hne ⊢
   cases hb : blk hp id with
   | none => rw [hb] at hne; exact absurd rfl hne
   | some y => rw [h _ _ hb]
theorem rUpdate_mono (h : ∀ id x, blk hp id = some x → blk hp' id = some x) {mi : Option MapI} {m k x : SV} (hne : rUpdate mi hp m k x ≠ .bad) : rUpdate mi hp' m k x = rUpdate mi hp m k x := by
 match mi with
 | none => rfl
 | some ⟨ag, ls, z⟩ =>
  cases m <;> first | rfl | skip
  rename_i id
  simp only [rUpdate] at hne ⊢
  cases hb : blk hp id with
  | none => rw [hb] at hne; exact absurd rfl hne
  | some y => rw [h _ _ hb]
theorem rDelete_mono (h : ∀ id x, blk hp id = some x → blk hp' id = some x) {mi : Option MapI} {m k : SV} (hne : rDelete mi hp m k ≠ .bad) : rDelete mi hp' m k = rDelete mi hp m k := by
 match mi with
 | none => rfl
 | some ⟨ag, ls, z⟩ =>
  cases m <;> first | rfl | skip
  rename_i id
  simp only [rDelete] at hne ⊢
  cases hb : blk hp id with
  | none => rw [hb] at hne; exact absurd rfl hne
  | some y => rw [h _ _ hb]
theorem rClearMap_mono (h : ∀ id x, blk hp id = some x → blk hp' id = some x) {mi : Option MapI} {m : SV} (hne : rClearMap mi hp m ≠ .bad) : rClearMap mi hp' m = rClearMap mi hp m := by
 match mi with
 | none => rfl
 | some mi =>
  cases m <;> first | rfl | skip
  rename_i id
  simp only [rClearMap] at hne ⊢
  cases hb : blk hp id with
  | none => rw [hb] at hne; exact absurd rfl hne
  | some y => rw [h _ _ hb]
theorem rClear_mono (h : ∀ id x, blk hp id = some x → blk hp' id = some x) {t : TypeId} {d : SV} (hne : rClear P t hp d ≠ .bad) : rClear P t hp' d = rClear P t hp d := by
 unfold rClear at hne ⊢
 split
 ·rename_i e1
  rw [e1] at hne
  simp only at hne
  split
  ·rename_i e2
   rw [e2] at hne
   cases d <;> first | rfl | skip
   case asl id off n k =>
    simp only at hne ⊢
    cases hb : blk hp id with
    | none => rw [hb] at hne; exact absurd rfl hne
    | some y => rw [h _ _ hb]
   case vec id n k =>
    simp only at hne ⊢
    cases hb : blk hp id with
    | none => rw [hb] at hne; exact absurd rfl hne
    | some y => rw [h _ _ hb]
  ·rfl
 ·rfl
theorem stepR_mono_upd {F : Nat → SV} {op : Op} (hu : isUpd op = true) (h : ∀ id x, blk hp id = some x → blk hp' id = some x) (hne : stepR P F hp op ≠ .bad) : stepR P F hp' op = stepR P F hp op := by
 cases op <;> first | (simp [isUpd] at hu; done) | skip
 case store t x y => exact rStore_mono h hne
 case mapUpdate t m k x => exact rUpdate_mono h hne
 case insert t m k x => exact rUpdate_mono h hne
 case call c =>
  obtain ⟨callee, args, ts⟩ := c
  cases callee with
  | value f => simp [isUpd] at hu
  | invoke _ _ => simp [isUpd] at hu
  | builtin bb =>
   cases bb <;> first | (simp [isUpd] at hu; done) | skip
   case clear =>
    simp only [stepR, rCall] at hne ⊢
    split
    rotate_left
    ·rfl
    rename_i d t hargs hts
    simp only [hargs, hts] at hne
    generalize env F d = s at hne ⊢
    cases s <;> first | exact rClearMap_mono h hne | exact rClear_mono h hne
   case delete =>
    simp only [stepR, rCall] at hne ⊢
    split
    rotate_left
    ·rfl
    rename_i m k t t' hargs hts
    simp only [hargs, hts] at hne
    exact rDelete_mono h hne
end
theorem stepR_isUpd {P : Program} {F : Nat → SV} {hp : List (Nat × Blk)} {op : Op} (hu : isUpd op = true) : (∃ obl j b, stepR P F hp op = .upd obl j b) ∨ stepR P F hp op = .bad := by
 cases op <;> first | (simp [isUpd] at hu; done) | skip
 case store t x y => exact rStore_form _ _ _ _
 case mapUpdate t m k x => exact rUpdate_form _ _ _ _ _
 case insert t m k x => exact rUpdate_form _ _ _ _ _
 case call c =>
  obtain ⟨callee, args, ts⟩ := c
  cases callee with
  | value f => simp [isUpd] at hu
  | invoke _ _ => simp [isUpd] at hu
  | builtin bb =>
   cases bb <;> first | (simp [isUpd] at hu; done) | skip
   case clear => simp only [stepR, rCall]; (repeat' split) <;> first | exact .inr rfl | exact rClearMap_form _ _ _ | exact rClear_form _ _
   case delete => simp only [stepR, rCall]; split <;> first | exact .inr rfl | exact rDelete_form _ _ _ _
theorem stepR_upd_blk {P : Program} {F : Nat → SV} {hp : List (Nat × Blk)} {op : Op} {obl : Prop} {j : Nat} {b : Blk} (h : stepR P F hp op = .upd obl j b) : ∃ y, blk hp j = some y := by
 refine Classical.byContradiction fun hno => ?_
 have hn : blk hp j = none := by
  cases hb : blk hp j with
  | none => rfl
  | some y => exact (hno ⟨y, hb⟩).elim
 have hu := stepR_upd h
 cases op <;> first | (simp [isUpd] at hu; done) | skip
 case store t x y =>
  simp only [stepR] at h
  unfold rStore at h
  (repeat' split at h) <;> first | (cases h; done) | (simp only [Res.upd.injEq] at h; simp_all)
 case mapUpdate t m k x =>
  simp only [stepR] at h
  unfold rUpdate at h
  (repeat' split at h) <;> first | (cases h; done) | (simp only [Res.upd.injEq] at h; simp_all)
 case insert t m k x =>
  simp only [stepR] at h
  unfold rUpdate at h
  (repeat' split at h) <;> first | (cases h; done) | (simp only [Res.upd.injEq] at h; simp_all)
 case call c =>
  obtain ⟨callee, args, ts⟩ := c
  cases callee with
  | value f => simp [isUpd] at hu
  | invoke _ _ => simp [isUpd] at hu
  | builtin bb =>
   cases bb <;> first | (simp [isUpd] at hu; done) | skip
   case clear =>
    simp only [stepR, rCall] at h
    unfold rClearMap rClear at h
    (repeat' split at h) <;> first | (cases h; done) | (simp only [Res.upd.injEq] at h; simp_all)
   case delete =>
    simp only [stepR, rCall] at h
    unfold rDelete at h
    (repeat' split at h) <;> first | (cases h; done) | (simp only [Res.upd.injEq] at h; simp_all)
theorem stepR_blind {P : Program} {F : Nat → SV} {hp : List (Nat × Blk)} (hp' : List (Nat × Blk)) {op : Op} (hc : calm op = true) (hr : reads op = false) : stepR P F hp' op = stepR P F hp op := by
 cases op <;> first | rfl | (simp [calm] at hc; done) | (simp [reads] at hr; done) | skip
 case call c =>
  obtain ⟨callee, args, ts⟩ := c
  cases callee with
  | value f => rfl
  | invoke _ _ => simp [calm] at hc
  | builtin b => cases b <;> first | rfl | (simp [calm] at hc; done)
theorem stepR_load_one {P : Program} {F : Nat → SV} {hp hp' : List (Nat × Blk)} {t : TypeId} {x : Operand} (h : ∀ id y, addrBlk (env F x) = some id → blk hp id = some y → blk hp' id = some y) (hne : stepR P F hp (.load t x) ≠ .bad) :
  stepR P F hp' (.load t x) = stepR P F hp (.load t x) := by
 simp only [stepR] at hne ⊢
 unfold rLoad at hne ⊢
 split
 ·split
  ·rename_i id off hx
   cases hb : blk hp id with
   | none => exact absurd (by simp only [hx, hb]; split <;> rfl) hne
   | some y => rw [h _ _ (by rw [hx]; rfl) hb]
  ·rename_i id k i j hx
   cases hb : blk hp id with
   | none => exact absurd (by simp only [hx, hb]; split <;> rfl) hne
   | some y => rw [h _ _ (by rw [hx]; rfl) hb]
  ·rfl
  ·rfl
 ·split
  ·rename_i id off hx
   cases hb : blk hp id with
   | none => exact absurd (by simp only [hx, hb]; split <;> rfl) hne
   | some y => rw [h _ _ (by rw [hx]; rfl) hb]
  ·rename_i id k i j hx
   cases hb : blk hp id with
   | none => exact absurd (by simp only [hx, hb]; split <;> rfl) hne
   | some y => rw [h _ _ (by rw [hx]; rfl) hb]
  ·rfl
  ·rfl
 ·rfl
theorem stepR_store_blk {P : Program} {F : Nat → SV} {hp : List (Nat × Blk)} {t : TypeId} {x y : Operand} {obl : Prop} {j : Nat} {b : Blk} (h : stepR P F hp (.store t x y) = .upd obl j b) : addrBlk (env F x) = some j := by
 simp only [stepR] at h
 unfold rStore at h
 (repeat' split at h) <;> first | (cases h; done) | (simp only [Res.upd.injEq] at h; simp_all [addrBlk])
theorem FS_last {dst : Nat → Option Tmp} {res : Nat → SV} {F : Nat → SV} {i t : Nat} : ∀ {n : Nat}, i ≤ n → (∀ k, k < n → i ≤ k → dst k ≠ some t) → FS dst res (fun _ => true) F n t = FS dst res (fun _ => true) F i t
 | 0, hi, _ => by
  have : i = 0 := by omega
  subst this; rfl
 | n + 1, hi, h => by
  by_cases e : i = n + 1
  ·subst e; rfl
  ·simp only [FS, true_and]
   rw [if_neg (h n (by omega) (by omega))]
   exact FS_last (by omega) fun k h1 h2 => h k (by omega) h2
def TH (k : Nat) (nb : Nat → Option Blk) (up : Nat → Option (Nat × Blk)) (hp : List (Nat × Blk)) : Nat → List (Nat × Blk)
 | 0 => hp
 | i + 1 => match up i with
  | some (t, b) => setBlk (TH k nb up hp i) t b
  | none => consO (nb i) (k + i) (TH k nb up hp i)
def NH (k : Nat) (nb : Nat → Option Blk) (hp : List (Nat × Blk)) : Nat → List (Nat × Blk)
 | 0 => hp
 | i + 1 => consO (nb i) (k + i) (NH k nb hp i)
def UH (up : Nat → Option (Nat × Blk)) (S : Nat → Bool) (H : List (Nat × Blk)) : Nat → List (Nat × Blk)
 | 0 => H
 | i + 1 => if S i = true then (match up i with | some (t, b) => setBlk (UH up S H i) t b | none => UH up S H i) else UH up S H i
theorem TH_shift (k : Nat) (nb : Nat → Option Blk) (up : Nat → Option (Nat × Blk)) (hp : List (Nat × Blk)) (j : Nat) :
  TH (k + 1) (fun i => nb (i + 1)) (fun i => up (i + 1)) (TH k nb up hp 1) j = TH k nb up hp (j + 1) := by
 induction j with
 | zero => rfl
 | succ j ih =>
  have e : k + 1 + j = k + (j + 1) := by omega
  have r1 : TH (k + 1) (fun i => nb (i + 1)) (fun i => up (i + 1)) (TH k nb up hp 1) (j + 1) = match up (j + 1) with
   | some (t, b) => setBlk (TH (k + 1) (fun i => nb (i + 1)) (fun i => up (i + 1)) (TH k nb up hp 1) j) t b
   | none => consO (nb (j + 1)) (k + 1 + j) (TH (k + 1) (fun i => nb (i + 1)) (fun i => up (i + 1)) (TH k nb up hp 1) j) := rfl
  rw [r1, ih, e]
  rfl
theorem UH_keys {up : Nat → Option (Nat × Blk)} {S : Nat → Bool} {H : List (Nat × Blk)} {x : Nat} : ∀ {m : Nat} {y : Blk}, blk (UH up S H m) x = some y → ∃ z, blk H x = some z
 | 0, y, h => ⟨y, h⟩
 | m + 1, y, h => by
  simp only [UH] at h
  split at h
  ·split at h
   ·rename_i t b _
    rw [blk_setBlk] at h
    split at h
    ·rename_i e; subst e
     cases hb : blk (UH up S H m) x with
     | none => rw [hb] at h; cases h
     | some z => exact UH_keys hb
    ·exact UH_keys h
   ·exact UH_keys h
  ·exact UH_keys h
theorem NH_keys {k : Nat} {nb : Nat → Option Blk} {hp : List (Nat × Blk)} {x : Nat} {y : Blk} : ∀ {m : Nat}, blk (NH k nb hp m) x = some y → blk hp x = some y ∨ ∃ j, j < m ∧ nb j = some y ∧ x = k + j
 | 0, h => .inl h
 | m + 1, h => by
  simp only [NH] at h
  cases hn : nb m with
  | none =>
   rw [hn] at h
   rcases NH_keys (m := m) h with h | ⟨j, h1, h2, h3⟩
   ·exact .inl h
   ·exact .inr ⟨j, by omega, h2, h3⟩
  | some b =>
   rw [hn] at h
   simp only [consO, blk] at h
   split at h
   ·rename_i e
    exact .inr ⟨m, by omega, by rw [hn, h], by omega⟩
   ·rcases NH_keys (m := m) h with h | ⟨j, h1, h2, h3⟩
    ·exact .inl h
    ·exact .inr ⟨j, by omega, h2, h3⟩
theorem NH_old {k : Nat} {nb : Nat → Option Blk} {hp : List (Nat × Blk)} (hk : ∀ id x, blk hp id = some x → id < k) {x : Nat} {y : Blk} (h : blk hp x = some y) : ∀ {m : Nat}, blk (NH k nb hp m) x = some y
 | 0 => h
 | m + 1 => by
  simp only [NH]
  cases hn : nb m with
  | none => exact NH_old hk h
  | some b =>
   simp only [consO, blk]
   rw [if_neg (by have := hk _ _ h; omega)]
   exact NH_old hk h
theorem NH_new {k : Nat} {nb : Nat → Option Blk} {hp : List (Nat × Blk)} {j : Nat} {b : Blk} (h : nb j = some b) : ∀ {m : Nat}, j < m → blk (NH k nb hp m) (k + j) = some b
 | 0, hj => by omega
 | m + 1, hj => by
  simp only [NH]
  by_cases e : j = m
  ·subst e; rw [h]; simp [consO, blk]
  ·cases hn : nb m with
   | none => exact NH_new h (by omega)
   | some c =>
    simp only [consO, blk]
    rw [if_neg (by omega)]
    exact NH_new h (by omega)
theorem UH_other {up : Nat → Option (Nat × Blk)} {S : Nat → Bool} {H : List (Nat × Blk)} {x : Nat} : ∀ {m : Nat}, (∀ j, j < m → S j = true → ∀ t b, up j = some (t, b) → t ≠ x) → blk (UH up S H m) x = blk H x
 | 0, _ => rfl
 | m + 1, h => by
  have ih := UH_other (up := up) (S := S) (H := H) (x := x) (m := m) fun j hj => h j (by omega)
  simp only [UH]
  split
  ·rename_i hS
   split
   ·rename_i t b hu
    rw [blk_setBlk, if_neg (fun e => h m (by omega) hS t b hu e.symm)]
    exact ih
   ·exact ih
  ·exact ih
theorem UH_congr {up : Nat → Option (Nat × Blk)} {S T : Nat → Bool} {H : List (Nat × Blk)} : ∀ {m : Nat}, (∀ j, j < m → up j ≠ none → S j = T j) → UH up S H m = UH up T H m
 | 0, _ => rfl
 | m + 1, h => by
  have ih := UH_congr (up := up) (S := S) (T := T) (H := H) (m := m) fun j hj => h j (by omega)
  simp only [UH]
  cases hu : up m with
  | none => simp only [ih, ite_self]
  | some p =>
   rw [h m (by omega) (by rw [hu]; simp), ih]
theorem UH_skip {up : Nat → Option (Nat × Blk)} {S : Nat → Bool} {H : List (Nat × Blk)} {i : Nat} : ∀ {m : Nat}, i ≤ m → (∀ j, i ≤ j → j < m → up j ≠ none → S j = false) → UH up S H m = UH up S H i
 | 0, hi, _ => by have : i = 0 := by omega
                  subst this; rfl
 | m + 1, hi, h => by
  by_cases e : i = m + 1
  ·subst e; rfl
  ·have ih := UH_skip (up := up) (S := S) (H := H) (i := i) (m := m) (by omega) fun j h1 h2 => h j h1 (by omega)
   simp only [UH]
   cases hu : up m with
   | none => simp only [ih, ite_self]
   | some p =>
    rw [h m (by omega) (by omega) (by rw [hu]; simp)]
    exact ih
theorem UH_at {up : Nat → Option (Nat × Blk)} {S : Nat → Bool} {H : List (Nat × Blk)} {i n : Nat} (hi : i ≤ n) (h : ∀ j, j < n → up j ≠ none → (S j = true ↔ j < i)) : UH up S H n = UH up (fun _ => true) H i := by
 rw [UH_skip hi fun j h1 h2 h3 => by
  cases hS : S j with
  | false => rfl
  | true => have := (h j h2 h3).1 hS; omega]
 exact UH_congr fun j hj hu => (h j (by omega) hu).2 hj
theorem UH_at1 {up : Nat → Option (Nat × Blk)} {S : Nat → Bool} {H : List (Nat × Blk)} {i X : Nat} : ∀ {n : Nat}, i ≤ n → (∀ j, j < n → ∀ b, up j = some (X, b) → (S j = true ↔ j < i)) → blk (UH up S H n) X = blk (UH up (fun _ => true) H i) X
 | 0, hi, h => by
  have : i = 0 := by omega
  subst this; rfl
 | n + 1, hi, h => by
  by_cases e : i = n + 1
  ·subst e
   have key : ∀ m, m ≤ n + 1 → blk (UH up S H m) X = blk (UH up (fun _ => true) H m) X := by
    intro m
    induction m with
    | zero => intro _; rfl
    | succ m ih =>
     intro hm
     have ih := ih (by omega)
     simp only [UH, if_true]
     cases hu : up m with
     | none => simp only [ite_self]; exact ih
     | some p =>
      obtain ⟨t, b⟩ := p
      by_cases et : X = t
      ·subst et
       rw [if_pos ((h m (by omega) b hu).2 (by omega))]
       simp only [blk_setBlk, if_true, ih]
      ·split
       ·simp only [blk_setBlk, if_neg et, ih]
       ·simp only [blk_setBlk, if_neg et, ih]
   exact key _ (Nat.le_refl _)
  ·have ih := UH_at1 (up := up) (S := S) (H := H) (i := i) (X := X) (n := n) (by omega) fun j hj => h j (by omega)
   simp only [UH]
   split
   ·rename_i hS
    split
    ·rename_i t b hu
     rw [blk_setBlk, if_neg ?_]
     ·exact ih
     ·intro et
      subst et
      have := (h n (by omega) b hu).1 hS
      omega
    ·exact ih
   ·exact ih
theorem UH_set {up : Nat → Option (Nat × Blk)} {S S' : Nat → Bool} {H : List (Nat × Blk)} {i n t : Nat} {b : Blk} (hS : ∀ j, S' j = (S j || decide (j = i))) (hi : i < n) (hu : up i = some (t, b)) (h : ∀ j, j < n → up j ≠ none → (S j = true ↔ j < i)) :
  UH up S' H n = setBlk (UH up S H n) t b := by
 rw [UH_at (i := i + 1) (by omega) (fun j hj hj' => by
  rw [hS]; simp only [Bool.or_eq_true, decide_eq_true_eq, h j hj hj']; omega), UH_at (i := i) (by omega) h]
 simp only [UH, if_true, hu]
theorem UH_same {up : Nat → Option (Nat × Blk)} {S S' : Nat → Bool} {H : List (Nat × Blk)} {i n : Nat} (hS : ∀ j, S' j = (S j || decide (j = i))) (hu : up i = none) : UH up S' H n = UH up S H n :=
 UH_congr fun j hj hj' => by
  rw [hS]
  have : j ≠ i := fun e => hj' (e ▸ hu)
  simp [this]
inductive RunAt (P : Program) (ds : List (Option Tmp)) (F : Nat → SV) (hp : List (Nat × Blk)) (id : Nat) (o : Oper) : SV → Option Blk → Option (Nat × Blk) → Prop
 | skip (hg : gval ds o.guard F = some false) : RunAt P ds F hp id o undefSV none none
 | run (sv : SV) (nb : Option Blk) (hg : gval ds o.guard F = some true) (hc : calm o.op = true) (hr : OpRun P F hp id o sv nb) : RunAt P ds F hp id o sv nb none
 | upd (obl : Prop) (t : Nat) (b : Blk) (hg : gval ds o.guard F = some true) (h : stepR P F hp o.op = .upd obl t b) (ho : obl) : RunAt P ds F hp id o undefSV none (some (t, b))
theorem resolveU {P : Program} {O : Ctx} {J : Prop} (hJ : ¬ J) {ds : List (Option Tmp)} {K : St → Prop} : ∀ (ops : List Oper) (i : Nat) (st : St), (∀ o ∈ ops, (calm o.op || isUpd o.op) = true) → opsVC P O J ds ops i st K →
  ∃ (res : Nat → SV) (nb : Nat → Option Blk) (up : Nat → Option (Nat × Blk)) (st' : St),
   (∀ j o, ops[j]? = some o → RunAt P ds (FS (nth (dsts ops)) res (fun _ => true) (look st.fr) j) (TH (st.nid + i) nb up st.hp j) (st.nid + i + j) o (res j) (nb j) (up j)) ∧
   look st'.fr = FS (nth (dsts ops)) res (fun _ => true) (look st.fr) ops.length ∧ st'.hp = TH (st.nid + i) nb up st.hp ops.length ∧ st'.nid = st.nid ∧ K st'
 | [], i, st, _, h => ⟨fun _ => .top, fun _ => none, fun _ => none, st, fun j o ho => by simp at ho, rfl, rfl, rfl, h⟩
 | o :: ops, i, st, hall, h => by
  have go : ∀ (st2 : St) (sv : SV) (b : Option Blk) (u : Option (Nat × Blk)), RunAt P ds (look st.fr) st.hp (st.nid + i) o sv b u → st2.nid = st.nid → st2.hp = (match u with | some (t, x) => setBlk st.hp t x | none => consO b (st.nid + i) st.hp) → look st2.fr = putF (look st.fr) o.dst sv → opsVC P O J ds ops (i + 1) st2 K →
    ∃ (res : Nat → SV) (nb : Nat → Option Blk) (up : Nat → Option (Nat × Blk)) (st' : St),
     (∀ j o', (o :: ops)[j]? = some o' → RunAt P ds (FS (nth (dsts (o :: ops))) res (fun _ => true) (look st.fr) j) (TH (st.nid + i) nb up st.hp j) (st.nid + i + j) o' (res j) (nb j) (up j)) ∧
     look st'.fr = FS (nth (dsts (o :: ops))) res (fun _ => true) (look st.fr) (o :: ops).length ∧ st'.hp = TH (st.nid + i) nb up st.hp (o :: ops).length ∧ st'.nid = st.nid ∧ K st' := by
   intro st2 sv b u hr h1 h2 h3 h4
   obtain ⟨res, nb, up, st', ha, hf, hh, hn, hk⟩ := resolveU hJ ops (i + 1) st2 (fun o ho => hall o (List.mem_cons_of_mem _ ho)) h4
   let res' : Nat → SV := fun j => match j with | 0 => sv | j + 1 => res j
   let nb' : Nat → Option Blk := fun j => match j with | 0 => b | j + 1 => nb j
   let up' : Nat → Option (Nat × Blk) := fun j => match j with | 0 => u | j + 1 => up j
   have eF : ∀ j, FS (nth (dsts ops)) res (fun _ => true) (look st2.fr) j = FS (nth (dsts (o :: ops))) res' (fun _ => true) (look st.fr) (j + 1) := fun j => by
    rw [← FS_shift, h3]
    congr 1
    funext t
    simp [putF, nth, dsts, res']
   have e1 : TH (st.nid + i) nb' up' st.hp 1 = st2.hp := by rw [h2]; rfl
   have eH : ∀ j, TH (st2.nid + (i + 1)) nb up st2.hp j = TH (st.nid + i) nb' up' st.hp (j + 1) := fun j => by
    rw [← TH_shift, e1, h1]; rfl
   refine ⟨res', nb', up', st', fun j o' ho => ?_, ?_, ?_, hn.trans h1, hk⟩
   ·cases j with
    | zero => simp at ho; subst ho; exact hr
    | succ j =>
     have := ha j o' (by simpa using ho)
     rw [eF, eH, h1] at this
     have e : st.nid + (i + 1) + j = st.nid + i + (j + 1) := by omega
     rw [e] at this
     exact this
   ·rw [hf, eF]; rfl
   ·rw [hh, eH]; rfl
  obtain ⟨st1, hn, hh, hl, hcase⟩ := guard_resolve h
  have hst1 : st1 = ⟨st1.fr, st1.hp, st1.nid⟩ := rfl
  have ho := hall o List.mem_cons_self
  rcases hcase with ⟨hg, hrun⟩ | ⟨hg, hskip⟩
  ·generalize hres : stepR P (look st1.fr) st1.hp o.op = res at hrun
   rw [hl, hh] at hres
   by_cases hu : isUpd o.op = true
   ·rcases stepR_isUpd (P := P) (F := look st.fr) (hp := st.hp) hu with ⟨obl, j, b, e⟩ | e
    ·rw [hres] at e
     subst e
     exact go _ undefSV none (some (j, b)) (.upd obl j b hg hres hrun.1) (by rw [put_nid]; exact hn) (by rw [put_hp, hh]) (by rw [look_putF, hl]) hrun.2
    ·rw [hres] at e
     subst e
     exact hrun.elim
   ·have hc : calm o.op = true := by
     rw [Bool.or_eq_true] at ho
     exact ho.resolve_right hu
    have hq := stepR_calm (P := P) (F := look st.fr) (hp := st.hp) hc
    rw [hres] at hq
    cases res with
    | bad => exact hrun.elim
    | pure obl sv => exact go _ sv none none (.run _ _ hg hc (.pure obl sv hres hrun.1)) (by rw [put_nid, hn]) (by rw [put_hp, hh]; rfl) (by rw [hst1, look_putF, hl]) hrun.2
    | ex obl =>
     obtain ⟨sv, ho, hk⟩ := hrun
     exact go _ sv none none (.run _ _ hg hc (.ex obl sv hres ho)) (by rw [put_nid, hn]) (by rw [put_hp, hh]; rfl) (by rw [hst1, look_putF, hl]) hk
    | new obl b mk => exact go _ (mk (st.nid + i)) (some b) none (.run _ _ hg hc (.new obl b mk hres hrun.1)) (by rw [put_nid]; exact hn) (by rw [put_hp]; simp only [consO, hh, hn]) (by rw [look_putF, hl, hn]) hrun.2
    | upd obl j b => cases hq
    | updv obl j b sv => cases hq
    | grow obl j b sv => cases hq
    | call f args =>
     rcases hrun with ⟨pats, res, hcc, hs, hk⟩ | ⟨pats, b, res, hcc, hs, hk⟩ | ⟨hj, _⟩
     ·rw [hh] at hs
      exact go _ res none none (.run _ _ hg hc (.call f args pats res hres hcc hs)) (by rw [put_nid, hn]) (by rw [put_hp, hh]; rfl) (by rw [hst1, look_putF, hl]) hk
     ·rw [hh] at hs
      exact go _ (setId (st.nid + i) res) (some b) none (.run _ _ hg hc (.callN f args pats b res hres hcc hs)) (by rw [put_nid]; exact hn) (by rw [put_hp]; simp only [consO, hh, hn]) (by rw [look_putF, hl, hn]) hk
     ·exact absurd hj hJ
    | yield y args => exact absurd hrun.1 hJ
    | raw => exact absurd hrun.1 hJ
  ·exact go _ undefSV none none (.skip hg) (by rw [put_nid, hn]) (by rw [put_hp, hh]; rfl) (by rw [hst1, look_putF, hl]) hskip
theorem TH_keys {P : Program} {ds : List (Option Tmp)} {F : Nat → Nat → SV} {ops : List Oper} {res : Nat → SV} {nb : Nat → Option Blk} {up : Nat → Option (Nat × Blk)} {hp : List (Nat × Blk)} {k : Nat} (hk : ∀ id x, blk hp id = some x → id < k) : ∀ {i : Nat} {x : Nat} {y : Blk}, blk (TH k nb up hp i) x = some y → x < k + i
 | 0, x, y, h => hk x y h
 | i + 1, x, y, h => by
  simp only [TH] at h
  split at h
  ·rw [blk_setBlk] at h
   split at h
   ·rename_i e; subst e
    cases hb : blk (TH k nb up hp i) x with
    | none => rw [hb] at h; cases h
    | some z => have := TH_keys (P := P) (ds := ds) (F := F) (ops := ops) (res := res) hk hb; omega
   ·have := TH_keys (P := P) (ds := ds) (F := F) (ops := ops) (res := res) hk h; omega
  ·cases hn : nb i with
   | none => rw [hn] at h; have := TH_keys (P := P) (ds := ds) (F := F) (ops := ops) (res := res) hk (i := i) h; omega
   | some b =>
    rw [hn] at h
    simp only [consO, blk] at h
    split at h
    ·omega
    ·have := TH_keys (P := P) (ds := ds) (F := F) (ops := ops) (res := res) hk (i := i) h; omega
theorem runAt_up {P : Program} {ds : List (Option Tmp)} {F : Nat → SV} {hp : List (Nat × Blk)} {id : Nat} {o : Oper} {sv : SV} {nb : Option Blk} {up : Option (Nat × Blk)} (h : RunAt P ds F hp id o sv nb up) :
  (up = none ∨ (nb = none ∧ isUpd o.op = true)) ∧ ∀ t b, up = some (t, b) → ∃ y, blk hp t = some y := by
 cases h with
 | skip hg => exact ⟨.inl rfl, fun t b h => by cases h⟩
 | run hg hc hr => exact ⟨.inl rfl, fun t b h => by cases h⟩
 | upd obl t b hg h ho => exact ⟨.inr ⟨rfl, stepR_upd h⟩, fun t' b' e => by cases e; exact stepR_upd_blk h⟩
theorem TH_sub {P : Program} {ds : List (Option Tmp)} {F : Nat → Nat → SV} {ops : List Oper} {res : Nat → SV} {nb : Nat → Option Blk} {up : Nat → Option (Nat × Blk)} {hp : List (Nat × Blk)} {k : Nat} (hk : ∀ id x, blk hp id = some x → id < k)
  (h : ∀ j o, ops[j]? = some o → RunAt P ds (F j) (TH k nb up hp j) (k + j) o (res j) (nb j) (up j)) : ∀ {i : Nat}, i ≤ ops.length → ∀ {x : Nat} {y : Blk}, blk (TH k nb up hp i) x = some y → blk (UH up (fun _ => true) (NH k nb hp ops.length) i) x = some y
 | 0, hi, x, y, hx => NH_old hk hx
 | i + 1, hi, x, y, hx => by
  have keys : ∀ {i : Nat} {x : Nat} {y : Blk}, blk (TH k nb up hp i) x = some y → x < k + i := fun {i x y} => TH_keys (P := P) (ds := ds) (F := F) (ops := ops) (res := res) hk
  have ih := fun {x : Nat} {y : Blk} => TH_sub hk h (i := i) (by omega) (x := x) (y := y)
  obtain ⟨o, ho⟩ : ∃ o, ops[i]? = some o := ⟨ops[i], by simp [show i < ops.length by omega]⟩
  obtain ⟨h1, h2⟩ := runAt_up (h i o ho)
  simp only [TH] at hx
  simp only [UH, if_true]
  cases hu : up i with
  | some p =>
   obtain ⟨t, b⟩ := p
   rw [hu] at hx
   simp only [blk_setBlk] at hx ⊢
   split at hx
   ·rename_i e
    obtain ⟨z, hz⟩ := h2 t b hu
    rw [if_pos e, ih hz]
    rw [hz] at hx
    exact hx
   ·rename_i e
    rw [if_neg e]
    exact ih hx
  | none =>
   rw [hu] at hx
   dsimp only at hx ⊢
   cases hn : nb i with
   | none => rw [hn] at hx; exact ih hx
   | some b =>
    rw [hn] at hx
    simp only [consO, blk] at hx
    split at hx
    ·rename_i e
     subst e
     rw [UH_other fun j hj _ t c hjc => ?_, NH_new hn (by omega), hx]
     obtain ⟨oj, hoj⟩ : ∃ oj, ops[j]? = some oj := ⟨ops[j], by simp [show j < ops.length by omega]⟩
     obtain ⟨z, hz⟩ := (runAt_up (h j oj hoj)).2 t c hjc
     have := keys hz
     omega
    ·exact ih hx
end Go.Sx
end
section
set_option linter.unusedVariables false
set_option linter.unusedSimpArgs false
namespace Go.Sx
open Go.RowKit
section
variable {P : Program} {O : Ctx} {outs : Outs} {base : World} {okc : Nat → Prop} {ns : Nat}
def Mid2 (O : Ctx) (outs : Outs) (base : World) (okc : Nat → Prop) (ns nid m : Nat) (H : List (Nat × Blk)) (up : Nat → Option (Nat × Blk)) (dst : Nat → Option Tmp) (res : Nat → SV) (F : Nat → SV) (S : Nat → Bool) (a : Act) (w : World) : Prop :=
 (∀ j, j < m → S j = true → ∀ t b, up j = some (t, b) → NS nid m S t) ∧
 ∃ r, Sat base okc r (NS nid m S) (UH up S H m) w ∧ (∀ t, Rep r (NS nid m S) (Gd base okc r (NS nid m S) (UH up S H m) w) w (FS dst res S F m t) (a.tmps.getD t undef)) ∧ a.tmps.size = ns ∧ Ext O base okc r (NS nid m S) (UH up S H m) outs a w
theorem mid2_put {nid m i : Nat} {H : List (Nat × Blk)} {up : Nat → Option (Nat × Blk)} {dst : Nat → Option Tmp} {res F : Nat → SV} {S S' : Nat → Bool} {a : Act} {w w' : World} {r r' : Nat → Option Nat} (hS : ∀ j, S' j = (S j || decide (j = i))) (hi : i < m)
  (hlater : ∀ t, dst i = some t → ∀ j, j < m → i < j → dst j = some t → S j = false)
  (hF : ∀ t, Rep r (NS nid m S) (Gd base okc r (NS nid m S) (UH up S H m) w) w (FS dst res S F m t) (a.tmps.getD t undef)) (hsize : a.tmps.size = ns) (hdef : Ext O base okc r (NS nid m S) (UH up S H m) outs a w) (hlo : O.lo ≤ nid) (hd : ∀ t, dst i = some t → t < ns)
  (hu : ∀ j, j < m → S' j = true → ∀ t b, up j = some (t, b) → NS nid m S' t)
  (hs : Step base okc r (NS nid m S) (UH up S H m) w r' (NS nid m S') (UH up S' H m) w') {v : Value} (hv : Rep r' (NS nid m S') (Gd base okc r' (NS nid m S') (UH up S' H m) w') w' (res i) v) : Mid2 O outs base okc ns nid m H up dst res F S' (a.put (dst i) v) w' := by
 refine ⟨hu, r', hs.sat, fun t => ?_, by cases dst i <;> simp [Act.put, hsize], hdef.step hs (fun i hi => .inl (Nat.lt_of_lt_of_le hi hlo)) _ _⟩
 rw [FS_set hS hi (hlater t), put_getD]
 by_cases e : dst i = some t
 ·rw [if_pos e, if_pos ⟨e, by rw [hsize]; exact hd t e⟩]; exact hv
 ·rw [if_neg e, if_neg (fun h => e h.1)]; exact hs.rep (hF t)
theorem Sat.fewer {N : Nat → Prop} {r : Nat → Option Nat} {w : World} {hp hp' : List (Nat × Blk)} (hst : Sat base okc r N hp w) (hback : ∀ x y, blk hp' x = some y → N x → blk hp x = some y) : Step base okc r N hp w r N hp' w := by
 have hG : ∀ o c, Gd base okc r N hp w o c → Gd base okc r N hp' w o c ∧ w.heap[c]? = w.heap[c]? :=
  fun o c ⟨h1, h2, h3⟩ => ⟨⟨h1, fun i y hy hi => h2 i y (hback i y hy hi) hi, h3⟩, rfl⟩
 exact ⟨⟨hst.below, fun i y hy hi => (hst.rep i y (hback i y hy hi) hi).mono (fun _ _ => rfl) (fun _ h => h) hG (Shapes.refl _) (fun _ _ => rfl),
  fun i y b hy hi => hst.own i y b (hback i y hy hi) hi, fun i y i' y' b hy hi hy' hi' => hst.inj i y i' y' b (hback i y hy hi) hi (hback i' y' hy' hi') hi'⟩, fun _ _ => rfl, fun _ h => h, hG, Shapes.refl _⟩
theorem draw_ok2 {far : List (Nat × Nat)} {ro : Option Nat} {ops : Array Oper} {id : Nat} {Q : Exit → Act → World → Prop} {st : St} {K : St → Prop} {a : Act} {w : World} (hm : P.follows .mixedOrders = true) (hok : drawOk2 far ops.toList = true) (hd : ops.toList.all (dstIn ns) = true)
  (h : Inv O base okc ns st.nid outs st a w) (hk : opsVC P O (inlOk true ops.toList = true) (dsts ops.toList) ops.toList 0 st fun st' => FarVC far st' (K st'))
  (hK : ∀ st' a' w', K st' → Inv O base okc ns (st'.nid + ops.toList.length) outs st' a' w' → Q .normal a' w') : (Code.region id ops true).wpIn (FR ro) 0 P Q a w := by
 obtain ⟨r0, h0⟩ := h
 generalize hl : ops.toList = l at hok hd hk hK
 have hn : ops.size = l.length := by rw [← hl]; simp
 have hget : ∀ j : Nat, ops[j]? = l[j]? := fun j => by rw [← hl]; simp
 simp only [drawOk2, Bool.and_eq_true, Bool.not_eq_true'] at hok
 obtain ⟨⟨⟨⟨hedge, hapart⟩, hpair⟩, hall⟩, hnoJ⟩ := hok
 have hedge := edgesOk_spec hedge
 have hall : ∀ o ∈ l, (calm o.op || isUpd o.op) = true := List.all_eq_true.1 hall
 obtain ⟨res, nb, up, st1, hops, hF1, hh1, hn1, hk1⟩ := resolveU (by rw [hnoJ]; simp) l 0 st hall hk
 rw [Nat.add_zero] at hops hh1
 obtain ⟨hk1, hfar⟩ := farVC_spec hk1
 have hdl : (dsts l).length = l.length := by
  have : ∀ l : List Oper, (dsts l).length = l.length := fun l => by induction l <;> simp [dsts, *]
  exact this l
 have hkeys0 := h0.keys
 have hsubT := fun {i : Nat} (hi : i ≤ l.length) {x : Nat} {y : Blk} => TH_sub hkeys0 hops (i := i) hi (x := x) (y := y)
 generalize hH : NH st.nid nb st.hp l.length = H at hsubT
 have hHk : ∀ x y, blk H x = some y → x < st.nid ∨ ∃ j, j < l.length ∧ nb j = some y ∧ x = st.nid + j := fun x y hxy => by
  rw [← hH] at hxy
  rcases NH_keys hxy with h | h
  ·exact .inl (hkeys0 _ _ h)
  ·exact .inr h
 have hclosed : ∀ (S : Nat → Bool) (i : Nat), Closed l S → (∃ o, l[i]? = some o ∧ ∀ e ∈ o.after, Region.binds .any e = true → S e.on = true) → Closed l (fun j => S j || decide (j = i)) := by
  rintro S i hc ⟨o, ho, he⟩ j oj hoj hS e hm' hb
  simp only [Bool.or_eq_true, decide_eq_true_eq] at hS ⊢
  rcases hS with hS | hS
  ·exact .inl (hc j oj hoj hS e hm' hb)
  ·subst hS
   rw [ho] at hoj; cases hoj
   exact .inl (he e hm' hb)
 have hready : ∀ (listed : Array Bool) (i : Nat), listed.size = l.length → i ∈ Region.ready .any ops listed → i < l.length ∧ listed.getD i false = false ∧ ∃ o, l[i]? = some o ∧ ∀ e ∈ o.after, Region.binds .any e = true → listed.getD e.on false = true := by
  intro listed i hsz hi
  obtain ⟨h1, o, h2, h3⟩ := mem_ready.1 hi
  rw [hget] at h2
  have hlt : i < l.length := (List.getElem?_eq_some_iff.1 h2).1
  refine ⟨hlt, ?_, o, h2, h3⟩
  have : i < listed.size := by omega
  simpa [this] using h1
 have hleast : ∀ (listed : Array Bool), listed.size = l.length → ∀ i, i < l.length → listed.getD i false = false → ∃ j, j ≤ i ∧ j ∈ Region.ready .any ops listed := by
  intro listed hsz i
  induction i using Nat.strongRecOn with
  | _ i ih =>
   intro hi hf
   obtain ⟨o, ho⟩ : ∃ o, l[i]? = some o := ⟨l[i], by simp [hi]⟩
   by_cases hall : ∀ e ∈ o.after, Region.binds .any e = true → listed.getD e.on false = true
   ·refine ⟨i, Nat.le_refl _, mem_ready.2 ⟨?_, o, by rw [hget]; exact ho, hall⟩⟩
    have : i < listed.size := by omega
    simpa [this] using hf
   ·have : ∃ e, e ∈ o.after ∧ Region.binds .any e = true ∧ listed.getD e.on false = false := by
     refine Classical.byContradiction fun hno => hall fun e he hb => ?_
     cases hv : listed.getD e.on false with
     | true => rfl
     | false => exact (hno ⟨e, he, hb, hv⟩).elim
    obtain ⟨e, he, hb, hv⟩ := this
    have hlt := hedge i o ho e he hb
    rw [Nat.zero_add] at hlt
    obtain ⟨j, hj, hr⟩ := ih e.on hlt (by omega) hv
    exact ⟨j, by omega, hr⟩
 have hdst : ∀ i o, l[i]? = some o → nth (dsts l) i = o.dst := fun i o ho => by rw [dsts_get, ho]; rfl
 have hdin : ∀ i t, nth (dsts l) i = some t → t < ns := fun i t ht => by
  rw [dsts_get] at ht
  cases ho : l[i]? with
  | none => simp [ho] at ht
  | some o =>
   simp only [ho, Option.bind_some] at ht
   have := List.all_eq_true.1 hd o (List.mem_of_getElem? ho)
   simpa [dstIn, ht] using this
 have hupd : ∀ j, j < l.length → up j ≠ none → ∃ oj, l[j]? = some oj ∧ isUpd oj.op = true := fun j hj hu => by
  obtain ⟨oj, hoj⟩ : ∃ oj, l[j]? = some oj := ⟨l[j], by simp [hj]⟩
  exact ⟨oj, hoj, ((runAt_up (hops j oj hoj)).1.resolve_left hu).2⟩
 have walk : ∀ (fuel : Nat) (listed : Array Bool) (a : Act) (w : World), listed.size = l.length → Closed l (fun i => listed.getD i false) → cnt (fun i => listed.getD i false) l.length = fuel →
   Mid2 O outs base okc ns st.nid l.length H up (nth (dsts l)) res (look st.fr) (fun i => listed.getD i false) a w → wpAnyIn (FR ro) 0 P .any ops Q fuel listed a w := by
  intro fuel
  induction fuel with
  | zero =>
   intro listed a w hsz hcl hcnt hmid
   have hall := cnt_zero hcnt
   obtain ⟨_, r, hsat, hrep, hsize, hdef⟩ := hmid
   refine ⟨?_, hK st1 a w hk1 ?_⟩
   ·cases hr : Region.ready .any ops listed with
    | nil => rfl
    | cons x xs =>
     have := hready listed x hsz (by rw [hr]; exact List.mem_cons_self)
     rw [hall x this.1] at this
     exact absurd this.2.1 (by simp)
   ·have e1 : NS st.nid l.length (fun i => listed.getD i false) = (· < st.nid + l.length) := by
     funext x
     simp only [NS, eq_iff_iff]
     constructor
     ·rintro (h | ⟨j, h1, _, h3⟩) <;> omega
     ·intro h
      by_cases hx : x < st.nid
      ·exact .inl hx
      ·exact .inr ⟨x - st.nid, by omega, hall _ (by omega), by omega⟩
    have e2 : UH up (fun i => listed.getD i false) H l.length = UH up (fun _ => true) H l.length := UH_congr fun j hj _ => hall j hj
    rw [e1, e2] at hsat hrep hdef
    have hs2 := hsat.fewer (hp' := st1.hp) fun x y hy _ => by rw [hh1] at hy; exact hsubT (Nat.le_refl _) hy
    have hdef2 := hdef.step0 hs2 (fun i hi => Nat.lt_of_lt_of_le hi (Nat.le_trans h0.lo (by omega)))
    rw [hn1]
    refine ⟨r, hs2.sat, fun x y hy => ?_, fun t => ?_, hsize, Nat.le_trans h0.lo (by omega), hdef2.out, hdef2.rfix, hdef2.defers⟩
    ·rw [hh1] at hy
     obtain ⟨z, hz⟩ := UH_keys (hsubT (Nat.le_refl _) hy)
     rcases hHk _ _ hz with h | ⟨j, hj, _, e⟩ <;> omega
    ·have := hs2.rep (hrep t)
     rw [hF1]
     have e2 : FS (nth (dsts l)) res (fun i => listed.getD i false) (look st.fr) l.length t = FS (nth (dsts l)) res (fun _ => true) (look st.fr) l.length t :=
      FS_at (Nat.le_refl _) fun j hj _ => by simp only [hj, iff_true]; exact hall j hj
     rw [← e2]; exact this
  | succ fuel ih =>
   intro listed a w hsz hcl hcnt hmid
   obtain ⟨x, hx⟩ : ∃ x, x < l.length ∧ listed.getD x false = false := by
    refine Classical.byContradiction fun hno => ?_
    have hall : ∀ i, i < l.length → listed.getD i false = true := fun i hi => by
     cases hv : listed.getD i false with
     | true => rfl
     | false => exact (hno ⟨i, hi, hv⟩).elim
    have hc := cnt_tail (S := fun i => listed.getD i false) hall (fun j hj => by simp only [Array.getD_eq_getD_getElem?]; rw [Array.getElem?_eq_none (by omega)]; rfl) (Nat.le_refl l.length)
    rw [hc] at hcnt
    omega
   refine ⟨fun h => ?_, fun i hi => ?_⟩
   ·obtain ⟨y, _, hr⟩ := hleast listed hsz x (by omega) hx.2
    rw [h] at hr; cases hr
   ·obtain ⟨hil, hif, o, ho, hie⟩ := hready listed i hsz hi
    have hcl' := hclosed _ i hcl ⟨o, ho, hie⟩
    have hlook : ∀ t, t ∈ seen (dsts l) o → FS (nth (dsts l)) res (fun i => listed.getD i false) (look st.fr) l.length t = FS (nth (dsts l)) res (fun _ => true) (look st.fr) i t := by
     intro t ht
     refine FS_at (by omega) fun j hj hdj => ?_
     obtain ⟨oj, hoj⟩ : ∃ oj, l[j]? = some oj := ⟨l[j], by simp [show j < l.length by omega]⟩
     constructor
     ·intro hS
      refine Classical.byContradiction fun hge => ?_
      by_cases e : j = i
      ·subst e
       rw [hif] at hS; cases hS
      ·rcases apartOk_spec hapart ho hoj (by omega) with hb | ⟨_, hb⟩
       ·have := masks_closed hcl hb hS
        rw [hif] at this; cases this
       ·exact hb t hdj ht
     ·intro hlt
      rcases apartOk_spec hapart hoj ho hlt with hb | ⟨hb, _⟩
      ·have := masks_closed hcl' hb (by simp)
       simp only [Bool.or_eq_true, decide_eq_true_eq] at this
       exact this.resolve_right (by omega)
      ·exact (hb t hdj ht).elim
    have hchg : isUpd o.op = true → ∀ j, j < l.length → up j ≠ none → (listed.getD j false = true ↔ j < i) := by
     intro hro j hj hu
     obtain ⟨oj, hoj, huj⟩ := hupd j hj hu
     constructor
     ·intro hS
      refine Classical.byContradiction fun hge => ?_
      by_cases e : j = i
      ·subst e; rw [hif] at hS; cases hS
      ·rcases pairOk_spec hpair ho hoj (by omega) with hb | ⟨hb1, hb2, _⟩ | ⟨_, _, _, _, _, e1, _⟩
       ·have := masks_closed hcl hb hS
        rw [hif] at this; cases this
       ·exact hb1 ⟨hro, huj⟩
       ·rw [e1] at hro; cases hro
     ·intro hlt
      rcases pairOk_spec hpair hoj ho hlt with hb | ⟨hb1, _, hb3⟩ | ⟨_, _, _, _, _, e1, _⟩
      ·have := masks_closed hcl' hb (by simp)
       simp only [Bool.or_eq_true, decide_eq_true_eq] at this
       exact this.resolve_right (by omega)
      ·exact (hb1 ⟨huj, hro⟩).elim
      ·rw [e1] at huj; cases huj
    have hchg1 : reads o.op = true → ∀ X, (∀ ty a, o.op = .load ty (.tmp a) → addrBlk (FS (nth (dsts l)) res (fun _ => true) (look st.fr) i a) = some X) → ∀ j, j < l.length → ∀ b, up j = some (X, b) → (listed.getD j false = true ↔ j < i) := by
     intro hro X hX j hj b hu
     obtain ⟨oj, hoj, huj⟩ := hupd j hj (by rw [hu]; simp)
     constructor
     ·intro hS
      refine Classical.byContradiction fun hge => ?_
      by_cases e : j = i
      ·subst e; rw [hif] at hS; cases hS
      ·rcases pairOk_spec hpair ho hoj (by omega) with hb | ⟨hb1, hb2, _⟩ | ⟨t, a, t', c, y, e1, e2, hmem, hn1, hn2⟩
       ·have := masks_closed hcl hb hS
        rw [hif] at this; cases this
       ·exact hb2 ⟨hro, huj⟩
       ·have h1 := hX t a e1
        have h2 : addrBlk (FS (nth (dsts l)) res (fun _ => true) (look st.fr) j c) = some X := by
         have hat := hops j oj hoj
         rw [hu] at hat
         generalize res j = svj at hat
         generalize nb j = nbj at hat
         cases hat with
         | upd obl t b hg hst hobl =>
          rw [e2] at hst
          exact stepR_store_blk hst
        have h3 := hfar a c hmem
        rw [hF1, FS_last (i := i) (by omega) (fun k hk hik => noneFrom_spec hn1 (by omega) hik), FS_last (i := j) (t := c) (by omega) (fun k hk hik => noneFrom_spec hn2 (by omega) hik)] at h3
        unfold Apart at h3
        rw [h1, h2] at h3
        exact h3 rfl
     ·intro hlt
      rcases pairOk_spec hpair hoj ho hlt with hb | ⟨hb1, _, hb3⟩ | ⟨_, _, _, _, _, e1, _⟩
      ·have := masks_closed hcl' hb (by simp)
       simp only [Bool.or_eq_true, decide_eq_true_eq] at this
       exact this.resolve_right (by omega)
      ·exact (hb3 ⟨huj, hro⟩).elim
      ·rw [e1] at huj; cases huj
    have hmemU : isUpd o.op = true → ∀ id x, blk (TH st.nid nb up st.hp i) id = some x → blk (UH up (fun i => listed.getD i false) H l.length) id = some x := by
     intro hro id x hx
     rw [UH_at (i := i) (by omega) (hchg hro)]
     exact hsubT (by omega) hx
    have hmem1 : reads o.op = true → ∀ X x, (∀ ty a, o.op = .load ty (.tmp a) → addrBlk (FS (nth (dsts l)) res (fun _ => true) (look st.fr) i a) = some X) → blk (TH st.nid nb up st.hp i) X = some x → blk (UH up (fun i => listed.getD i false) H l.length) X = some x := by
     intro hro X x hX hx
     rw [UH_at1 (i := i) (by omega) (hchg1 hro X hX)]
     exact hsubT (by omega) hx
    have hat := hops i o ho
    obtain ⟨hupN, r, hsat, hrep, hsize, hdef⟩ := hmid
    have hdsti := hdst i o ho
    have hS : ∀ x, (listed.setIfInBounds i true).getD x false = (listed.getD x false || decide (x = i)) := fun x => getD_set (by omega)
    have hNS : ∀ x, NS st.nid l.length (fun i => listed.getD i false) x → NS st.nid l.length (fun x => (listed.setIfInBounds i true).getD x false) x := fun x hx => by
     rw [← NS_set hS hil]; exact .inl hx
    have hfresh : ¬ NS st.nid l.length (fun i => listed.getD i false) (st.nid + i) := by
     rintro (h | ⟨j, h1, h2, h3⟩)
     ·omega
     ·have : j = i := by omega
      subst this
      dsimp only at h2
      rw [hif] at h2; cases h2
    have hlater : ∀ t, nth (dsts l) i = some t → ∀ j, j < l.length → i < j → nth (dsts l) j = some t → listed.getD j false = false := by
     intro t hdi j hj hij hdj
     obtain ⟨oj, hoj⟩ : ∃ oj, l[j]? = some oj := ⟨l[j], by simp [show j < l.length by omega]⟩
     cases hv : listed.getD j false with
     | false => rfl
     | true =>
      rcases apartOk_spec hapart ho hoj hij with hb | ⟨_, hb⟩
      ·have := masks_closed hcl hb hv
       rw [hif] at this; cases this
      ·refine (hb t hdj ?_).elim
       simp only [seen, List.mem_append]
       rw [hdsti] at hdi
       simp [hdi]
    have next : ∀ (v : Value) (r' : Nat → Option Nat) (w' : World), (∀ t b, up i = some (t, b) → NS st.nid l.length (fun i => listed.getD i false) t) →
      Step base okc r (NS st.nid l.length fun i => listed.getD i false) (UH up (fun i => listed.getD i false) H l.length) w r' (NS st.nid l.length fun x => (listed.setIfInBounds i true).getD x false) (UH up (fun x => (listed.setIfInBounds i true).getD x false) H l.length) w' →
      Rep r' (NS st.nid l.length fun x => (listed.setIfInBounds i true).getD x false) (Gd base okc r' (NS st.nid l.length fun x => (listed.setIfInBounds i true).getD x false) (UH up (fun x => (listed.setIfInBounds i true).getD x false) H l.length) w') w' (res i) v →
      wpAnyIn (FR ro) 0 P .any ops Q fuel (listed.setIfInBounds i true) (a.put o.dst v) w' := by
     intro v r' w' hui hs hv
     refine ih _ _ _ (by simpa using hsz) ?_ ?_ ?_
     ·have : (fun x => (listed.setIfInBounds i true).getD x false) = fun x => listed.getD x false || decide (x = i) := funext hS
      rw [this]; exact hcl'
     ·have := (cnt_set (S := fun i => listed.getD i false) (S' := fun x => (listed.setIfInBounds i true).getD x false) hS hif (n := l.length)).2 hil
      omega
     ·rw [← hdsti]
      refine mid2_put hS hil hlater hrep hsize hdef h0.lo (hdin i) (fun j hj hSj t b hu => ?_) hs hv
      rw [hS] at hSj
      simp only [Bool.or_eq_true, decide_eq_true_eq] at hSj
      rcases hSj with hSj | rfl
      ·exact hNS _ (hupN j hj hSj t b hu)
      ·exact hNS _ (hui t b hu)
    have hsame : up i = none → UH up (fun x => (listed.setIfInBounds i true).getD x false) H l.length = UH up (fun i => listed.getD i false) H l.length := fun hu => UH_same hS hu
    have hnokey : nb i = none → ∀ x y (S : Nat → Bool), blk (UH up S H l.length) x = some y → NS st.nid l.length (fun x => (listed.setIfInBounds i true).getD x false) x → NS st.nid l.length (fun i => listed.getD i false) x := by
     intro hnb x y S hy hx
     rw [← NS_set hS hil] at hx
     rcases hx with hx | hx
     ·exact hx
     ·subst hx
      obtain ⟨z, hz⟩ := UH_keys hy
      rcases hHk _ _ hz with h | ⟨j, _, hj, e⟩
      ·omega
      ·have : j = i := by omega
       subst this
       rw [hnb] at hj; cases hj
    have hmore : nb i = none → up i = none → Step base okc r (NS st.nid l.length fun i => listed.getD i false) (UH up (fun i => listed.getD i false) H l.length) w r (NS st.nid l.length fun x => (listed.setIfInBounds i true).getD x false) (UH up (fun x => (listed.setIfInBounds i true).getD x false) H l.length) w := by
     intro hnb hu
     rw [hsame hu]
     exact hsat.more hNS fun x y hy hx => hnokey hnb x y _ hy hx
    have hguard : ∀ b, gval (dsts l) o.guard (FS (nth (dsts l)) res (fun _ => true) (look st.fr) i) = some b → Region.wanted o (yielded ops a.tmps) = b := by
     intro b hg
     cases hog : o.guard with
     | none => rw [hog] at hg; simp only [gval, Option.some.injEq] at hg; subst hg; simp [Region.wanted, hog]
     | some gw =>
      obtain ⟨j, want⟩ := gw
      rw [hog] at hg
      simp only [gval] at hg
      cases ht : nth (dsts l) j with
      | none => simp [ht] at hg
      | some t =>
       have hy := yielded_eq ops a j t (by rw [hl]; exact ht)
       have htn : t ∈ seen (dsts l) o := by simp [seen, gTmps, hog, ht]
       have hrt := hrep t
       rw [hlook t htn] at hrt
       simp only [ht] at hg
       cases hv : FS (nth (dsts l)) res (fun _ => true) (look st.fr) i t with
       | val u =>
        rw [hv] at hg hrt
        have hu : a.tmps.getD t undef = u := by generalize a.tmps.getD t undef = z at hrt; cases hrt; rfl
        simp only [Array.getD_eq_getD_getElem?] at hu
        cases u with
        | bool c =>
         have : yielded ops a.tmps j = some c := by
          rw [hy]
          cases hz : a.tmps[t]? with
          | none => rw [hz] at hu; simp [undef] at hu
          | some z => rw [hz] at hu; simp at hu; rw [hu]
         simp only [Option.some.injEq] at hg
         subst hg
         simp only [Region.wanted, hog, this]
         cases c <;> cases want <;> rfl
        | tuple vs =>
         have : yielded ops a.tmps j = none := by
          rw [hy]
          cases hz : a.tmps[t]? with
          | none => rfl
          | some z => rw [hz] at hu; simp at hu; rw [hu]
         simp only [Option.some.injEq] at hg
         subst hg
         simp [Region.wanted, hog, this]
        | _ => simp at hg
       | _ => rw [hv] at hg; simp at hg
    have henv : ∀ x, x ∈ o.op.operands → Rep r (NS st.nid l.length fun i => listed.getD i false) (Gd base okc r (NS st.nid l.length fun i => listed.getD i false) (UH up (fun i => listed.getD i false) H l.length) w) w (env (FS (nth (dsts l)) res (fun _ => true) (look st.fr) i) x) (a.eval x) := fun x hx => rep_env x fun t ht => by
     subst ht
     rw [← hlook t (by
      simp only [seen, List.mem_append]
      exact .inl (List.mem_filterMap.2 ⟨.tmp t, by simpa using hx, rfl⟩))]
     exact hrep t
    unfold wpOpIn
    simp only [hget, ho]
    generalize hsv : res i = sv at hat
    generalize hnbi : nb i = nbi at hat
    generalize hupi : up i = upi at hat
    cases hat with
    | skip hg =>
     rw [if_neg (by rw [hguard _ hg]; simp)]
     exact ⟨fun _ _ => trivial, next undef r w (fun t b hu => by rw [hupi] at hu; cases hu) (hmore hnbi hupi) (by rw [hsv]; exact .val _)⟩
    | upd obl t b hg hst hobl =>
     rw [if_pos (hguard _ hg)]
     have hu := stepR_upd hst
     have hnd : ∀ c, o.op ≠ .defer c := fun c e => by rw [e] at hu; cases hu
     have hst' : stepR P (FS (nth (dsts l)) res (fun _ => true) (look st.fr) i) (UH up (fun i => listed.getD i false) H l.length) o.op = .upd obl t b := by
      rw [stepR_mono_upd hu (hmemU hu) (by rw [hst]; simp), hst]
     refine wpIn_of_wp hnd (step_ok hsat (fr := FS (nth (dsts l)) res (fun _ => true) (look st.fr) i) (id := st.nid + i) (hp' := UH up (fun i => listed.getD i false) H l.length) henv ?_)
     rw [hst']
     refine ⟨hobl, fun w' hs => ?_⟩
     have hui : ∀ t' b', up i = some (t', b') → NS st.nid l.length (fun i => listed.getD i false) t' := fun t' b' e => by
      rw [hupi] at e; cases e
      exact upd_N hst' henv
     refine next undef r w' hui ?_ (by rw [hsv]; exact .val _)
     rw [UH_set hS hil hupi (hchg hu)]
     refine hs.trans (hs.sat.more hNS fun x y hy hx => ?_)
     rw [← UH_set hS hil hupi (hchg hu)] at hy
     exact hnokey hnbi x y _ hy hx
    | run sv nbi hg hca hrun =>
     rw [if_pos (hguard _ hg)]
     have hnd : ∀ c, o.op ≠ .defer c := fun c e => by rw [e] at hca; cases hca
     have hui : ∀ t b, up i = some (t, b) → NS st.nid l.length (fun i => listed.getD i false) t := fun t b hu => by rw [hupi] at hu; cases hu
     have hstep : stepR P (FS (nth (dsts l)) res (fun _ => true) (look st.fr) i) (TH st.nid nb up st.hp i) o.op ≠ .bad →
       stepR P (FS (nth (dsts l)) res (fun _ => true) (look st.fr) i) (UH up (fun i => listed.getD i false) H l.length) o.op = stepR P (FS (nth (dsts l)) res (fun _ => true) (look st.fr) i) (TH st.nid nb up st.hp i) o.op := fun hne => by
      cases hr : reads o.op with
      | true =>
       by_cases hld : ∃ ty x, o.op = .load ty x
       ·obtain ⟨ty, x, e⟩ := hld
        rw [e] at hne ⊢
        refine stepR_load_one (fun id y hid hy => hmem1 hr id y (fun ty' a e' => ?_) hy) hne
        rw [e] at e'
        cases e'
        exact hid
       ·exact stepR_mono hca (fun id y hy => hmem1 hr id y (fun ty a e => (hld ⟨ty, _, e⟩).elim) hy) hne
      | false => exact stepR_blind _ hca hr
     have hnew : ∀ b, nb i = some b → blk (UH up (fun i => listed.getD i false) H l.length) (st.nid + i) = some b := fun b hb => by
      rw [UH_other (x := st.nid + i) (fun j hj hSj t c hjc (e : t = st.nid + i) => hfresh (by rw [← e]; exact hupN j hj hSj t c hjc)), ← hH]
      exact NH_new hb hil
     refine wpIn_of_wp hnd (step_ok hsat (fr := FS (nth (dsts l)) res (fun _ => true) (look st.fr) i) (id := st.nid + i) (hp' := UH up (fun i => listed.getD i false) H l.length) henv ?_)
     cases hrun with
     | pure obl _ hst hobl =>
      rw [hstep (by rw [hst]; simp), hst]
      refine ⟨hobl, fun v hv => next v r w hui (hmore hnbi hupi) ?_⟩
      rw [hsv]; exact (hmore hnbi hupi).rep hv
     | ex obl _ hst hobl =>
      rw [hstep (by rw [hst]; simp), hst]
      refine ⟨sv, hobl, fun v hv => next v r w hui (hmore hnbi hupi) ?_⟩
      rw [hsv]; exact (hmore hnbi hupi).rep hv
     | new obl b mk hst hobl =>
      rw [hstep (by rw [hst]; simp), hst]
      refine ⟨hobl, hfresh, hnew b hnbi, fun _ _ => rfl, fun v w' r' hs hv => ?_⟩
      rw [NS_set hS hil] at hs hv
      refine next v r' w' hui (by rw [hsame hupi]; exact hs) ?_
      rw [hsv, hsame hupi]; exact hv
     | call f args pats _ hst hc hs =>
      have hr : reads o.op = true := by
       obtain ⟨x, xs, ts, first, caps, e, _⟩ := stepR_call hst
       rw [e]; rfl
      have hm' : ∀ id y, blk (TH st.nid nb up st.hp i) id = some y → blk (UH up (fun i => listed.getD i false) H l.length) id = some y := fun id y hy => hmem1 hr id y (fun ty a e => by
       obtain ⟨x, xs, ts, first, caps, e', _⟩ := stepR_call hst
       rw [e'] at e; cases e) hy
      rw [hstep (by rw [hst]; simp), hst]
      refine .inl ⟨pats, sv, hc, hs.imp (fun h => ⟨subL_mono hm' _ _ h.1, h.2⟩) (fun h => h), fun v w' hst' hv => ?_⟩
      have hgrow := hst'.sat.more hNS fun x y hy hx => hnokey hnbi x y _ hy hx
      refine next v r w' hui ?_ ?_
      ·rw [hsame hupi]; exact hst'.trans hgrow
      ·rw [hsame hupi, hsv]; exact hgrow.rep hv
     | callN f args pats b res' hst hc hs =>
      have hr : reads o.op = true := by
       obtain ⟨x, xs, ts, first, caps, e, _⟩ := stepR_call hst
       rw [e]; rfl
      have hm' : ∀ id y, blk (TH st.nid nb up st.hp i) id = some y → blk (UH up (fun i => listed.getD i false) H l.length) id = some y := fun id y hy => hmem1 hr id y (fun ty a e => by
       obtain ⟨x, xs, ts, first, caps, e', _⟩ := stepR_call hst
       rw [e'] at e; cases e) hy
      rw [hstep (by rw [hst]; simp), hst]
      refine .inr ⟨pats, b, res', hc, hs.mono hm', hfresh, _, hnew b hnbi, fun _ _ => rfl, fun v w' r' hs hv => ?_⟩
      rw [NS_set hS hil] at hs hv
      refine next v r' w' hui (by rw [hsame hupi]; exact hs) ?_
      rw [hsv, hsame hupi]; exact hv
 refine wpIn_region_any hm ?_
 rw [hn]
 have hrep0 : ∀ i, (Array.replicate l.length false).getD i false = false := fun i => by simp only [Array.getD_eq_getD_getElem?, Array.getElem?_replicate]; split <;> rfl
 refine walk l.length (Array.replicate l.length false) a _ (by simp) ?_ ?_ ?_
 ·intro j o ho hS; simp only [hrep0] at hS; cases hS
 ·have key : ∀ n, cnt (fun i => (Array.replicate l.length false).getD i false) n = n := by
   intro n
   induction n with
   | zero => rfl
   | succ n ihn =>
    simp only [cnt, ihn]
    rw [if_neg (by rw [hrep0]; simp)]
  exact key _
 ·have hN : NS st.nid l.length (fun i => (Array.replicate l.length false).getD i false) = (· < st.nid) := by
   funext x
   simp only [NS, eq_iff_iff]
   constructor
   ·rintro (h | ⟨j, _, h2, _⟩)
    ·exact h
    ·rw [hrep0] at h2; cases h2
   ·exact .inl
  have hU : UH up (fun i => (Array.replicate l.length false).getD i false) H l.length = H := by
   rw [UH_skip (i := 0) (Nat.zero_le _) fun j _ _ _ => hrep0 j]; rfl
  have hdrew : Below w.heap.size w { w with drawn := w.drawn + 1 } := ⟨rfl, rfl, rfl, Nat.le_refl _, fun _ _ => rfl⟩
  have hst := h0.sat.grow hdrew
  unfold Mid2
  rw [hN, hU]
  have hs2 := hst.sat.fewer (hp' := H) fun x y hy hx => by
   rw [← hH] at hy
   rcases NH_keys hy with h | ⟨j, _, _, e⟩
   ·exact h
   ·omega
  refine ⟨fun j _ hS => absurd hS (by dsimp only; rw [hrep0]; simp), r0, hs2.sat, fun t => ?_, h0.size, ((Ext.mk h0.out h0.rfix h0.defers).step0 hst (fun i hi => Nat.lt_of_lt_of_le hi h0.lo)).step0 hs2 (fun i hi => Nat.lt_of_lt_of_le hi h0.lo)⟩
  have e : FS (nth (dsts l)) res (fun i => (Array.replicate l.length false).getD i false) (look st.fr) l.length t = look st.fr t := by
   have := FS_at (dst := nth (dsts l)) (res := res) (S := fun i => (Array.replicate l.length false).getD i false) (F := look st.fr) (i := 0) (t := t) (Nat.zero_le l.length) (fun j hj _ => by rw [hrep0]; simp)
   exact this
  rw [e]
  exact hs2.rep (hst.rep (h0.fr t))
end
end Go.Sx
end
section
set_option linter.unusedVariables false
set_option linter.unusedSimpArgs false
namespace Go.Sx
open Go.RowKit
inductive Ex : Type
 | normal
 | exit (id : Nat)
 | ret
def toExit : Ex → Exit
 | .normal => .normal
 | .exit id => .exit id
 | .ret => .ret
def Weak (O : Ctx) (st st' : St) : Prop := ∀ (base : World) (okc : Nat → Prop) (ns : Nat) (outs : Outs) (a : Act) (w : World), Inv O base okc ns st.nid outs st a w → Inv O base okc ns st'.nid outs st' a w
def thenK (K : Ex → St → Prop) (n : St → Prop) : Ex → St → Prop
 | .normal, st => n st
 | .exit id, st => K (.exit id) st
 | .ret, st => K .ret st
def blockK (id : Nat) (K : Ex → St → Prop) : Ex → St → Prop
 | .normal, st => K .normal st
 | .exit i, st => if i = id then K .normal st else K (.exit i) st
 | .ret, st => K .ret st
def LoopVC (O : Ctx) (body : St → (Ex → St → Prop) → Prop) (st : St) (K : Ex → St → Prop) : Prop :=
 ∃ (α : Type) (inv : α → St) (μ : α → Nat) (x0 : α), Weak O st (inv x0) ∧ ∀ x, body (inv x) (thenK K fun st' => ∃ y, μ y < μ x ∧ Weak O st' (inv y))
def codeOkF (far : Nat → List (Nat × Nat)) (ns : Nat) : Code → Bool
 | .skip => true
 | .label _ => true
 | .seq a b => codeOkF far ns a && codeOkF far ns b
 | .cond _ t e => codeOkF far ns t && codeOkF far ns e
 | .block _ c => codeOkF far ns c
 | .exit _ => true
 | .ret => true
 | .region id ops d => ops.toList.all (dstIn ns) && (!d || drawOk ops.toList || drawOk2 (far id) ops.toList || isHand (far id))
 | .loop c => codeOkF far ns c
 | .scope c => codeOkF far ns c
 | .rangeFunc _ ps a b => codeOkF far ns a && codeOkF far ns b && ps.toList.all (fun t => decide (t < ns))
 | _ => false
abbrev codeOk (ns : Nat) (c : Code) : Bool := codeOkF noFar ns c
def RawVC (P : Program) (O : Ctx) (c : Code) (st : St) (K : Ex → St → Prop) : Prop :=
 ∀ (base : World) (okc : Nat → Prop) (ns : Nat) (outs : Outs) (a : Act) (w : World) (ro : Option Nat) (Q : Exit → Act → World → Prop), O.rnd = ro.isSome → codeOkF O.far ns c = true → Inv O base okc ns st.nid outs st a w → (∀ e st' a' w', K e st' → Inv O base okc ns st'.nid outs st' a' w' → Q (toExit e) a' w') → c.wpIn (FR ro) 0 P Q a w
def CondVC (P : Program) (v : SV) (A B : Prop) : Prop :=
 match v with
 | .val (.bool b) => SplitVC b A B
 | _ => False
def vc (P : Program) (O : Ctx) : Code → St → (Ex → St → Prop) → Prop
 | .skip, st, K => K .normal st
 | .label _, st, K => K .normal st
 | .seq a b, st, K => vc P O a st (thenK K fun st' => vc P O b st' K)
 | .cond c t e, st, K => CondVC P (env (look st.fr) c) (vc P O t st K) (vc P O e st K)
 | .block id c, st, K => vc P O c st (blockK id K)
 | .exit id, st, K => K (.exit id) st
 | .ret, st, K => K .ret st
 | .region id ops d, st, K => if isHand (O.far id) = true then RawVC P O (.region id ops d) st K else opsVC P O (inlOk d ops.toList = true) (dsts ops.toList) ops.toList 0 st (fun st' => FarVC (O.far id) st' (K .normal { st' with nid := st'.nid + ops.toList.length }))
 | .loop c, st, K => LoopVC O (vc P O c) st K ∨ RawVC P O (.loop c) st K
 | .scope c, st, K => vc P O c st K
 | .rangeFunc a b c d, st, K => RawVC P O (.rangeFunc a b c d) st K
 | _, _, _ => False
theorem wp_loop_any {P : Program} {ro : Option Nat} {α : Type} {c : Code} {Q : Exit → Act → World → Prop} (I : α → Act → World → Prop) (μ : α → Nat) (round : ∀ x a w, I x a w → c.wpIn (FR ro) 0 P (Exit.then (fun a' w' => ∃ y, μ y < μ x ∧ I y a' w') Q) a w)
  {x0 : α} {a : Act} {w : World} (h0 : I x0 a w) : (Code.loop c).wpIn (FR ro) 0 P Q a w := by
 intro b k cs hro hb hr
 have key : ∀ n x a w, μ x = n → I x a w → ∃ e a' w', Q e a' w' ∧ ArrivesIn (Machine.fenced P (FR ro)) P (lone (b.atR a (.code c :: .inLoop c :: k)) cs w) b k cs e a' w' := by
  intro n
  induction n using Nat.strongRecOn with
  | _ n ih =>
   intro x a w hn hI
   obtain ⟨e, a₁, w₁, hq, harr⟩ := round x a w hI b (.inLoop c :: k) cs hro hb hr
   cases e with
   | normal =>
    obtain ⟨y, hlt, hy⟩ := hq
    obtain ⟨e₂, a₂, w₂, hq₂, harr₂⟩ := ih (μ y) (hn ▸ hlt) y a₁ w₁ rfl hy
    exact ⟨e₂, a₂, w₂, hq₂, .of_steps (StepsIn.trans harr (.one (fenced_calm hb hr rfl) stepR_inLoop)) harr₂⟩
   | exit id => exact ⟨_, a₁, w₁, hq, .pass (x := .inLoop c) rfl (fun _ _ => .inl (by simp)) harr⟩
   | goto l => exact ⟨_, a₁, w₁, hq, .pass (x := .inLoop c) rfl (fun _ _ => .inl (by simp)) harr⟩
   | ret => exact ⟨_, a₁, w₁, hq, .pass (x := .inLoop c) rfl (fun _ _ => .inl (by simp)) harr⟩
   | panic ch => exact ⟨_, a₁, w₁, hq, .pass (x := .inLoop c) rfl (fun _ _ => .inl (by simp)) harr⟩
   | outgrown => exact ⟨_, a₁, w₁, hq, .pass (x := .inLoop c) rfl (fun _ _ => .inl (by simp)) harr⟩
 obtain ⟨e, a', w', hq, harr⟩ := key _ x0 a w rfl h0
 exact ⟨e, a', w', hq, .of_steps (.one (fenced_calm hb hr rfl) stepR_loop) harr⟩
theorem stepR_scope {P : Program} {b : Frame} {a : Act} {k : List Item} {cs : List Frame} {w : World} {c : Code} : step P (lone (b.atR a (.code (.scope c) :: k)) cs w) = .next (lone (b.atR a (.code c :: .inScope c :: k)) cs w) :=
 step_lone_go (by simp [stepG, stepG.exec, Frame.atR])
theorem stepR_inScope {P : Program} {b : Frame} {a : Act} {k : List Item} {cs : List Frame} {w : World} {c : Code} : step P (lone (b.atR a (.inScope c :: k)) cs w) = .next (lone (b.atR a k) cs w) :=
 step_lone_go (by simp [stepG, stepG.exec, Frame.atR])
theorem wpIn_scope_straight {P : Program} {ro : Option Nat} {c : Code} {Q : Exit → Act → World → Prop} {a : Act} {w : World} (h : c.wpIn (FR ro) 0 P (Exit.noGoto Q) a w) : (Code.scope c).wpIn (FR ro) 0 P Q a w := by
 intro b k cs hro hb hr
 have s1 := (StepsIn.one (I := Machine.fenced P (FR ro)) (fenced_calm (fr := b.atR a (.code (.scope c) :: k)) hb hr rfl) (stepR_scope (P := P) (b := b) (a := a) (k := k) (cs := cs) (w := w) (c := c)))
 obtain ⟨e, a₁, w₁, hq, harr⟩ := h b (.inScope c :: k) cs hro hb hr
 cases e with
 | normal => exact ⟨.normal, a₁, w₁, hq, StepsIn.trans s1 (StepsIn.trans harr (.one (fenced_calm hb hr rfl) stepR_inScope))⟩
 | exit id => exact ⟨.exit id, a₁, w₁, hq, fun k' hk => s1.trans (harr.1 k' (by simp [exitTo, hk])), fun h1 h2 => let ⟨k1, h3, h4⟩ := harr.2 h1 (by simp [exitTo, h2]); ⟨k1, h3, s1.trans h4⟩⟩
 | goto l => exact hq.elim
 | ret => exact ⟨_, a₁, w₁, hq, .of_steps s1 harr⟩
 | panic ch => exact ⟨_, a₁, w₁, hq, .of_steps s1 harr⟩
 | outgrown => exact ⟨_, a₁, w₁, hq, .of_steps (b := b) (k := k) (cs := cs) (e := .outgrown) s1 harr⟩
section
variable {P : Program} {O : Ctx} {base : World} {okc : Nat → Prop} {ns : Nat} {outs : Outs}
theorem Inv.nid {k : Nat} {st : St} {a : Act} {w : World} (h : Inv O base okc ns k outs st a w) (n : Nat) : Inv O base okc ns k outs { st with nid := n } a w := by
 obtain ⟨r, h⟩ := h
 exact ⟨r, h.nid n⟩
theorem vc_ok (hm : P.follows .mixedOrders = true) {ro : Option Nat} (hro : O.rnd = ro.isSome) : ∀ (c : Code) (st : St) (K : Ex → St → Prop) (Q : Exit → Act → World → Prop) (a : Act) (w : World), codeOkF O.far ns c = true → vc P O c st K → Inv O base okc ns st.nid outs st a w →
  (∀ e st' a' w', K e st' → Inv O base okc ns st'.nid outs st' a' w' → Q (toExit e) a' w') → c.wpIn (FR ro) 0 P Q a w
 | .skip, st, K, Q, a, w, _, h, hi, hK => wpIn_skip (hK .normal st a w h hi)
 | .label l, st, K, Q, a, w, _, h, hi, hK => wpIn_label (hK .normal st a w h hi)
 | .ret, st, K, Q, a, w, _, h, hi, hK => wpIn_ret (hK .ret st a w h hi)
 | .exit id, st, K, Q, a, w, _, h, hi, hK => wpIn_exit (hK (.exit id) st a w h hi)
 | .seq x y, st, K, Q, a, w, hc, h, hi, hK => by
  simp only [codeOkF, Bool.and_eq_true] at hc
  refine wpIn_seq (vc_ok hm hro x st _ _ a w hc.1 h hi fun e st' a' w' hk hi' => ?_)
  cases e with
  | normal => exact vc_ok hm hro y st' K Q a' w' hc.2 hk hi' hK
  | exit id => exact hK (.exit id) st' a' w' hk hi'
  | ret => exact hK .ret st' a' w' hk hi'
 | .cond c t e, st, K, Q, a, w, hc, h, hi, hK => by
  simp only [codeOkF, Bool.and_eq_true] at hc
  obtain ⟨r, hr⟩ := hi
  have he := hr.env c
  simp only [vc, CondVC] at h
  split at h
  ·rename_i b hb
   rw [hb] at he
   have : a.eval c = .bool b := by generalize a.eval c = z at he; cases he; rfl
   exact wpIn_cond_split this (fun ht => vc_ok hm hro t st K Q a w hc.1 (h.1 ht) ⟨r, hr⟩ hK) (fun hf => vc_ok hm hro e st K Q a w hc.2 (h.2 hf) ⟨r, hr⟩ hK)
  ·exact h.elim
 | .block id c, st, K, Q, a, w, hc, h, hi, hK => by
  refine wpIn_block (vc_ok hm hro c st _ _ a w hc h hi fun e st' a' w' hk hi' => ?_)
  cases e with
  | normal => exact hK .normal st' a' w' hk hi'
  | exit i =>
   simp only [blockK] at hk
   simp only [toExit, Exit.inBlock]
   split at hk
   ·rename_i e; rw [if_pos e]; exact hK .normal st' a' w' hk hi'
   ·rename_i e; rw [if_neg e]; exact hK (.exit i) st' a' w' hk hi'
  | ret => exact hK .ret st' a' w' hk hi'
 | .scope c, st, K, Q, a, w, hc, h, hi, hK => by
  refine wpIn_scope_straight (vc_ok hm hro c st K _ a w hc h hi fun e st' a' w' hk hi' => ?_)
  cases e with
  | normal => exact hK .normal st' a' w' hk hi'
  | exit i => exact hK (.exit i) st' a' w' hk hi'
  | ret => exact hK .ret st' a' w' hk hi'
 | .region id ops false, st, K, Q, a, w, hc, h, hi, hK => by
  simp only [vc] at h
  split at h
  ·exact h base okc ns outs a w ro Q hro hc hi hK
  simp only [codeOkF, Bool.and_eq_true] at hc
  obtain ⟨r, hr⟩ := hi
  refine wpIn_region_list (ops_ok ops.toList 0 st _ r a w (by simpa using hr) hc.1 h fun st' a' w' hk hi' => ?_)
  refine hK .normal _ a' w' (farVC_spec hk).1 ?_
  rw [Nat.zero_add] at hi'
  exact hi'.nid _
 | .region id ops true, st, K, Q, a, w, hc, h, hi, hK => by
  simp only [vc] at h
  split at h
  ·exact h base okc ns outs a w ro Q hro hc hi hK
  rename_i hnh
  simp only [codeOkF, Bool.and_eq_true, Bool.not_true, Bool.false_or, Bool.or_eq_true] at hc
  replace hc := And.intro hc.1 (hc.2.resolve_right hnh)
  have fin : ∀ (st' : St) (a' : Act) (w' : World), K .normal { st' with nid := st'.nid + ops.toList.length } → Inv O base okc ns (st'.nid + ops.toList.length) outs st' a' w' → Q .normal a' w' := fun st' a' w' hk hi' => hK .normal _ a' w' hk (hi'.nid _)
  by_cases h1 : drawOk ops.toList = true
  ·exact draw_ok hm h1 hc.1 hi h fun st' a' w' hk hi' => fin st' a' w' (farVC_spec hk).1 hi'
  ·exact draw_ok2 hm (hc.2.resolve_left h1) hc.1 hi h fin
 | .loop c, st, K, Q, a, w, hc, h, hi, hK => by
  rcases h with h | h
  rotate_left
  ·exact h base okc ns outs a w ro Q hro hc hi hK
  obtain ⟨α, inv, μ, x0, hw, hround⟩ := h
  refine wp_loop_any (fun x a w => Inv O base okc ns (inv x).nid outs (inv x) a w) μ (fun x a w hx => ?_) (x0 := x0) (hw _ _ _ _ _ _ hi)
  refine vc_ok hm hro c (inv x) _ _ a w hc (hround x) hx fun e st' a' w' hk hi' => ?_
  cases e with
  | normal =>
   obtain ⟨y, hy, hwy⟩ := hk
   exact ⟨y, hy, hwy _ _ _ _ _ _ hi'⟩
  | exit i => exact hK (.exit i) st' a' w' hk hi'
  | ret => exact hK .ret st' a' w' hk hi'
 | .rangeFunc _ _ _ _, st, K, Q, a, w, hc, h, hi, hK => h base okc ns outs a w ro Q hro hc hi hK
 | .goto _, st, K, Q, a, w, _, h, hi, hK => h.elim
 | .refuse _, st, K, Q, a, w, _, h, hi, hK => h.elim
theorem putObj_other {w : World} {D b : Nat} {x : Obj} (h : b ≠ D) : (w.putObj D x).heap[b]? = w.heap[b]? := World.putObj_heap_other h
theorem cell_putObj {w : World} {D b o : Nat} {x : Obj} {ds : Option (List Deferred)} {v : Value} (hD : w.heap[D]? = some (.deferred ds)) (h : w.cell? ⟨b, o, none⟩ = some v) : (w.putObj D x).cell? ⟨b, o, none⟩ = some v := by
 by_cases e : b = D
 ·subst e; simp [World.cell?, hD] at h
 ·rw [cell_of_block (putObj_other e)]; exact h
theorem Rep.putD {r : Nat → Option Nat} {N : Nat → Prop} {G G' : Bool → Nat → Prop} {w : World} {D : Nat} {x : Obj} {ds : Option (List Deferred)} (hD : w.heap[D]? = some (.deferred ds)) (hG : ∀ o b, G o b → G' o b) {sv : SV} {v : Value} (h : Rep r N G w sv v) : Rep r N G' (w.putObj D x) sv v := by
 induction h with
 | top v => exact .top v
 | val v => exact .val v
 | agg l cs hl _ ih => exact .agg l cs hl ih
 | tup l cs hl _ ih => exact .tup l cs hl ih
 | fn f l m cs ds hl hm _ _ ih ih' => exact .fn f l m cs ds hl hm ih ih'
 | ptr id off b h1 h2 => exact .ptr id off b h1 h2
 | elt id k i j b h1 h2 => exact .elt id k i j b h1 h2
 | ref o n row b off f hg hc _ ih => exact .ref o n row b off f (hG _ _ hg) (fun j hj => cell_putObj hD (hc j hj)) ih
 | arrNil o full k row a cap hf => exact .arrNil o full k row a cap hf
 | arr o full n k row b off cap f hg hf hcap hc _ ih => exact .arr o full n k row b off cap f (hG _ _ hg) hf hcap (fun i j hi hj => cell_putObj hD (hc i j hi hj)) ih
 | vecNil id k h1 h2 => exact .vecNil id k h1 h2
 | vec id n k b cap cs t h1 h2 hb hsz hcap hm => exact .vec id n k b cap cs t h1 h2 ((putObj_other (fun e => by subst e; rw [hD] at hb; cases hb)).trans hb) hsz hcap hm
 | mp id b h1 h2 => exact .mp id b h1 h2
 | asl id off n k b cap h1 h2 hcap => exact .asl id off n k b cap h1 h2 hcap
 | queNil id off k a h1 => exact .queNil id off k a h1
 | que id off n k b cap cs t h1 h2 hb hsz hcap hm => exact .que id off n k b cap cs t h1 h2 ((putObj_other (fun e => by subst e; rw [hD] at hb; cases hb)).trans hb) hsz hcap hm
 | cutNil id k h1 h2 => exact .cutNil id k h1 h2
 | cut id n k b h1 h2 => exact .cut id n k b h1 h2
 | cmp o fit dom get b es clock hg hb hm _ ih => exact .cmp o fit dom get b es clock (hG _ _ hg) ((putObj_other (fun e => by subst e; rw [hD] at hb; cases hb)).trans hb) hm ih
 | yld id b h1 h2 => exact .yld id b h1 h2
theorem BlkRep.putD {r : Nat → Option Nat} {N : Nat → Prop} {G G' : Bool → Nat → Prop} {w : World} {D : Nat} {x : Obj} {ds : Option (List Deferred)} (hD : w.heap[D]? = some (.deferred ds)) (hG : ∀ o b, G o b → G' o b) {ob : Option Nat} {b : Blk} (h : BlkRep r N G w ob b) : BlkRep r N G' (w.putObj D x) ob b := by
 have hne : ∀ {c : Nat} {y : Obj}, w.heap[c]? = some y → (∀ ds, y ≠ .deferred ds) → (w.putObj D x).heap[c]? = some y := fun {c y} hc hy => (putObj_other (fun e => by subst e; rw [hD] at hc; cases hc; exact hy _ rfl)).trans hc
 cases h with
 | cells t l b cs hb' hl h => exact .cells t l b cs (hne hb' (by simp)) hl fun i sv hi => (h i sv hi).putD hD hG
 | none t k row => exact .none t k row
 | rows t k n row b cs hb' hl h => exact .rows t k n row b cs (hne hb' (by simp)) hl fun i j hi hj => (h i j hi hj).putD hD hG
 | map fit dom get b es clock hb' hm ht h => exact .map fit dom get b es clock (hne hb' (by simp)) hm ht fun e he => (h e he).putD hD hG
 | mapS fit dom get stamp b es clock hb' hm ht hst h => exact .mapS fit dom get stamp b es clock (hne hb' (by simp)) hm ht hst fun e he => (h e he).putD hD hG
 | iter mid since seen last b m h1 h2 hb' => exact .iter mid since seen last b m h1 h2 (hne hb' (by simp))
 | loop L s b hb' => exact .loop L s b (hne hb' (by simp))
theorem Sat.putD {r : Nat → Option Nat} {N : Nat → Prop} {hp : List (Nat × Blk)} {w : World} (h : Sat base okc r N hp w) {D : Nat} {x : Obj} {ds : Option (List Deferred)} (hD : w.heap[D]? = some (.deferred ds)) (hG : Gd base okc r N hp w true D) : Sat base okc r N hp (w.putObj D x) := by
 have hg : ∀ o b, Gd base okc r N hp w o b → Gd base okc r N hp (w.putObj D x) o b := fun o b ⟨h1, h2, h3⟩ => ⟨by rw [World.putObj_size]; exact h1, h2, h3⟩
 refine ⟨h.below.trans ⟨rfl, rfl, rfl, by rw [World.putObj_size]; exact Nat.le_refl _, fun k hk => putObj_other fun e => ?_⟩, fun id y hy hN => (h.rep id y hy hN).putD hD hg, h.own, h.inj⟩
 have := hG.2.2
 simp only [if_true] at this
 omega
def putAll (w : World) : List Nat → World
 | [] => w
 | D :: Ds => putAll (w.putObj D (.deferred none)) Ds
theorem leaves_all {F : Fence} {fn : Func} {tmps : Array Value} {R : Ending → World → Prop} : ∀ (Ds : List Nat) (w : World), Ds.Nodup → (∀ D ∈ Ds, w.heap[D]? = some (.deferred (some []))) →
  (∃ v, (results fn tmps).run P (putAll w Ds) = .ok v (putAll w Ds) ∧ R (.returned v) (putAll w Ds)) → LeavesInM F 0 P fn tmps R (Ds.map cDef) .returning w
 | [], w, _, _, h => h
 | D :: Ds, w, hn, hd, h => by
  refine ⟨by simp, .inl ⟨D, _, rfl, run_takeDeferred (hd D (by simp)), ?_⟩⟩
  refine leaves_all Ds _ (List.nodup_cons.1 hn).2 (fun D' hD' => ?_) h
  rw [World.putObj_heap_other (fun e => by subst e; exact (List.nodup_cons.1 hn).1 hD')]
  exact hd D' (by simp [hD'])
theorem cDef_inj {D D' : Nat} (h : cDef D = cDef D') : D = D' := by
 unfold cDef at h
 injection h with h1
 injection h1
theorem inv_leave {r : Nat → Option Nat} {k : Nat} {st : St} : ∀ (Ds rest : List Nat) (a : Act) (w : World), InvR O base okc ns k r outs st a w → a.defers = Ds.map cDef → (Ds ++ rest).Nodup → (outs.as.map (·.defers)).flatten = rest.map cDef →
  (∀ D ∈ Ds ++ rest, Gd base okc r (· < k) st.hp w true D ∧ w.heap[D]? = some (.deferred (some []))) → InvR O base okc ns k r outs st { a with defers := [] } (putAll w Ds)
 | [], rest, a, w, h, hd, hn, ho, hG => by
  have : ({ a with defers := [] } : Act) = a := by cases a; simp at hd; subst hd; rfl
  rw [this]; exact h
 | D :: Ds, rest, a, w, h, hd, hn, ho, hG => by
  simp only [List.cons_append, List.nodup_cons] at hn
  obtain ⟨g1, g2⟩ := hG D (by simp)
  have hg : ∀ o b, Gd base okc r (· < k) st.hp w o b → Gd base okc r (· < k) st.hp (w.putObj D (.deferred none)) o b := fun o b ⟨h1, h2, h3⟩ => ⟨by rw [World.putObj_size]; exact h1, h2, h3⟩
  have hrest : ∀ D' ∈ Ds ++ rest, Gd base okc r (· < k) st.hp (w.putObj D (.deferred none)) true D' ∧ (w.putObj D (.deferred none)).heap[D']? = some (.deferred (some [])) := fun D' hD' => by
   obtain ⟨h1, h2⟩ := hG D' (by simp at hD' ⊢; exact .inr hD')
   refine ⟨hg _ _ h1, (World.putObj_heap_other fun e => ?_).trans h2⟩
   subst e; exact hn.1 hD'
  refine inv_leave Ds rest { a with defers := Ds.map cDef } (w.putObj D (.deferred none)) ⟨h.sat.putD g2 g1, h.keys, fun i => (h.fr i).putD g2 hg, h.size, h.lo, h.out.mono (Nat.le_refl _) fun n hn sv v hv => hv.putD g2 hg, h.rfix, ⟨Ds ++ rest, ?_, hn.2, hrest⟩⟩ rfl hn.2 ho hrest
  simp [allD, ho]
theorem leave_split {r : Nat → Option Nat} {k : Nat} {st : St} {a : Act} {w : World} (h : InvR O base okc ns k r outs st a w) :
  ∃ Ds, a.defers = Ds.map cDef ∧ Ds.Nodup ∧ (∀ D ∈ Ds, w.heap[D]? = some (.deferred (some []))) ∧ InvR O base okc ns k r outs st { a with defers := [] } (putAll w Ds) := by
 obtain ⟨Ds, h1, h2, h3⟩ := h.defers
 unfold allD at h1
 obtain ⟨l1, l2, rfl, e1, e2⟩ := List.append_eq_map_iff.1 h1
 exact ⟨l1, e1.symm, (List.nodup_append.1 h2).1, fun D hD => (h3 D (by simp [hD])).2, inv_leave l1 l2 a w h e1.symm h2 e2.symm h3⟩
mutual
def Old : SV → Prop
 | .top => True
 | .val _ => True
 | .agg l => OldL l
 | .tup l => OldL l
 | .fn _ a b => OldL a ∧ OldL b
 | .ref o n row => o = false ∧ ∀ j, j < n → Old (row j)
 | .arr o _ n k row => o = false ∧ ∀ i j, i < n → j < k → Old (row i j)
 | .cmp o _ dom get => o = false ∧ ∀ key, dom key = true → Old (get key)
 | _ => False
def OldL : List SV → Prop
 | [] => True
 | a :: l => Old a ∧ OldL l
end
theorem oldL_get : ∀ {l : List SV}, OldL l → ∀ (i : Nat) (a : SV), l[i]? = some a → Old a
 | [], _, i, a, h => by simp at h
 | b :: l, hf, i, a, h => by
  simp only [OldL] at hf
  cases i with
  | zero => simp at h; subst h; exact hf.1
  | succ i => exact oldL_get hf.2 i a (by simpa using h)
theorem old_rep {r : Nat → Option Nat} {N : Nat → Prop} {G G' : Bool → Nat → Prop} {w : World} (hG : ∀ b, G false b → G' false b) {p : SV} {v : Value} (h : Rep noR noN G w p v) (hf : Old p) : Rep r N G' w p v := by
 induction h with
 | top v => exact .top v
 | val v => exact .val v
 | agg l cs hl _ ih => exact .agg l cs hl fun i sv hi => ih i sv hi (oldL_get (by simpa only [Old] using hf) i sv hi)
 | tup l cs hl _ ih => exact .tup l cs hl fun i sv hi => ih i sv hi (oldL_get (by simpa only [Old] using hf) i sv hi)
 | fn f l m cs ds hl hm _ _ ih ih' =>
  simp only [Old] at hf
  exact .fn f l m cs ds hl hm (fun i sv hi => ih i sv hi (oldL_get hf.1 i sv hi)) (fun i sv hi => ih' i sv hi (oldL_get hf.2 i sv hi))
 | ref o n row b off f hg hc _ ih =>
  simp only [Old] at hf
  obtain ⟨rfl, hf⟩ := hf
  exact .ref _ _ _ _ _ f (hG _ hg) hc fun j hj => ih j hj (hf j hj)
 | arrNil o full k row a cap hfc => exact .arrNil _ _ _ _ _ _ hfc
 | arr o full n k row b off cap f hg hfc hcap hc _ ih =>
  simp only [Old] at hf
  obtain ⟨rfl, hf⟩ := hf
  exact .arr _ _ _ _ _ _ _ _ f (hG _ hg) hfc hcap hc fun i j hi hj => ih i j hi hj (hf i j hi hj)
 | cmp o fit dom get b es clock hg hb hm _ ih =>
  simp only [Old] at hf
  obtain ⟨rfl, hf⟩ := hf
  exact .cmp _ _ _ _ b es clock (hG _ hg) hb hm fun e he => ih e he (hf _ (hm.doms e he))
 | cutNil id k hN => exact hN.elim
 | cut id n k b hN => exact hN.elim
 | ptr id off b hN => exact hN.elim
 | elt id k i j b hN => exact hN.elim
 | vecNil id k hN => exact hN.elim
 | vec id n k b cap cs t hN => exact hN.elim
 | mp id b hN => exact hN.elim
 | asl id off n k b cap hN => exact hN.elim
 | queNil id off k a hN => exact hN.elim
 | que id off n k b cap cs t hN => exact hN.elim
 | yld id b hN => exact hN.elim
def argFr : Nat → List SV → List (Nat × SV)
 | _, [] => []
 | i, a :: l => (i, a) :: argFr (i + 1) l
theorem look_argFr (l : List SV) (i t : Nat) : look (argFr i l) t = if t < i then .top else l.getD (t - i) .top := by
 induction l generalizing i with
 | nil => simp [argFr, look]
 | cons a l ih =>
  simp only [argFr, look, ih]
  by_cases h : t = i
  ·subst h; simp
  ·rw [if_neg h]
   by_cases h' : t < i
   ·rw [if_pos h', if_pos (by omega)]
   ·rw [if_neg h', if_neg (by omega)]
    have : t - i = (t - (i + 1)) + 1 := by omega
    rw [this]; rfl
def resultVC (P : Program) (rv : ResultVar) (st : St) (K : SV → Prop) : Prop :=
 match rv with
 | .tmp t => K (look st.fr t)
 | .cell t ty => match rLoad (tyOf P ty) st.hp (look st.fr t) with
  | .pure obl sv => obl ∧ K sv
  | .ex obl => ∃ sv, obl sv ∧ K sv
  | _ => False
def resultsVC (P : Program) : List ResultVar → St → (List SV → Prop) → Prop
 | [], st, K => K []
 | rv :: l, st, K => resultVC P rv st fun s => resultsVC P l st fun m => K (s :: m)
def retVC (P : Program) (rs : List ResultVar) (st : St) (res : SV) : Prop :=
 resultsVC P rs st fun m => match m with
  | [s] => Sub st.hp res s
  | m => Sub st.hp res (.tup m)
def runResult (tmps : Array Value) : ResultVar → Sem Value
 | .tmp t => pure (tmps.getD t undef)
 | .cell a t => do loadVar t (← asAddr (tmps.getD a undef))
def oneOf : List Value → Value
 | [v] => v
 | l => .tuple l.toArray
theorem results_run (fn : Func) (tmps : Array Value) (w : World) (vs : List Value) (h : (fn.results.toList.mapM (runResult tmps)).run P w = .ok vs w) :
  (results fn tmps).run P w = .ok (oneOf vs) w := by
 have e : results fn tmps = (do let vs ← fn.results.mapM (runResult tmps); pure (if h : vs.size = 1 then vs[0] else .tuple vs)) := by
  unfold results
  congr 1
 rw [e, Array.mapM_eq_mapM_toList]
 simp only [Sem.run_bind, Sem.run_map, h, Result.andThen_ok, Sem.run_pure]
 match vs with
 | [] => rfl
 | [v] => rfl
 | v :: u :: l => simp [oneOf]
theorem loadAt_asAddr {t : TypeId} {v u : Value} {w : World} (h : (Instr.loadAt t v).run P w = .ok u w) : (do loadVar t (← asAddr v)).run P w = .ok u w := by
 cases v with
 | pointer a =>
  cases a with
  | none => simp [Instr.loadAt, Instr.sureAddr] at h
  | some a => exact h
 | _ => simp [Instr.loadAt, Instr.sureAddr] at h
theorem results_ok {st : St} {a : Act} {w : World} {r : Nat → Option Nat} {k : Nat} (hi : InvR O base okc ns k r outs st a w) : ∀ (rs : List ResultVar) (K : List SV → Prop), resultsVC P rs st K →
  ∃ m vs, K m ∧ (rs.mapM (runResult a.tmps)).run P w = .ok vs w ∧ m.length = vs.length ∧ ∀ i sv, m[i]? = some sv → Rep r (· < k) (Gd base okc r (· < k) st.hp w) w sv (vs.getD i undef)
 | [], K, h => ⟨[], [], h, rfl, rfl, fun i sv hi => by simp at hi⟩
 | rv :: rs, K, h => by
  have one : ∃ s v, resultsVC P rs st (fun m => K (s :: m)) ∧ (runResult a.tmps rv).run P w = .ok v w ∧ Rep r (· < k) (Gd base okc r (· < k) st.hp w) w s v := by
   cases rv with
   | tmp t => exact ⟨_, _, h, rfl, hi.fr t⟩
   | cell t ty =>
    have hg := run_load (P := P) (t := ty) hi.sat.ok (hi.fr t)
    simp only [resultsVC, resultVC] at h
    generalize rLoad (tyOf P ty) st.hp (look st.fr t) = res at h hg
    cases res with
    | pure obl sv =>
     obtain ⟨v, hv, hrep⟩ := hg h.1
     exact ⟨sv, v, h.2, loadAt_asAddr hv, hrep⟩
    | ex obl =>
     obtain ⟨sv, ho, h⟩ := h
     obtain ⟨v, hv, hrep⟩ := hg sv ho
     exact ⟨sv, v, h, loadAt_asAddr hv, hrep⟩
    | _ => exact h.elim
  obtain ⟨s, v, hk, hv, hrep⟩ := one
  obtain ⟨m, vs, hK, hrun, hlen, hreps⟩ := results_ok hi rs _ hk
  refine ⟨s :: m, v :: vs, hK, ?_, by simp [hlen], fun i sv hi => ?_⟩
  ·simp only [List.mapM_cons, Sem.run_bind, hv, hrun, Result.andThen_ok, Sem.run_pure]
  ·cases i with
   | zero => simp at hi; subst hi; exact hrep
   | succ i => simpa using hreps i sv (by simpa using hi)
theorem calls_of_vc (hm : P.follows .mixedOrders = true) {f : FuncId} {fn : Func} {c : Code} (hf : P.funcs[f]? = some fn) (hb : fn.body = some c) (hok : codeOkF O.far fn.ntmps c = true) (hO : O.rnd = false) {vs : Array Value} {w : World} {st0 : St} {Post : St → List SV → Prop} {R : Ending → World → Prop}
  (h0 : Inv O base okc fn.ntmps st0.nid outs st0 { tmps := vs ++ Array.replicate (fn.ntmps - vs.size) undef, defers := [] } w)
  (h : vc P O c st0 (fun e st => match e with | .exit _ => False | _ => resultsVC P fn.results.toList st (Post st)))
  (hR : ∀ (st : St) (r : Nat → Option Nat) (a : Act) (w' : World) (m : List SV) (us : List Value), Post st m → InvR O base okc fn.ntmps st.nid r outs st a w' → m.length = us.length →
   (∀ i sv, m[i]? = some sv → Rep r (· < st.nid) (Gd base okc r (· < st.nid) st.hp w') w' sv (us.getD i undef)) → R (.returned (oneOf us)) w') : Calls P f vs w R := by
 refine (callsIn_wide (n := 0)).1 (callsIn_of_wp_marks (F := FR none) hf hb trivial ?_)
 refine vc_ok hm (ro := none) (by rw [hO]; rfl) c st0 _ _ _ _ hok h h0 fun e st' a' w' hk hi => ?_
 have fin : resultsVC P fn.results.toList st' (Post st') → LeavesInM (FR none) 0 P fn a'.tmps R a'.defers .returning w' := by
  intro hr
  obtain ⟨r, hi⟩ := hi
  obtain ⟨Ds, hd, hnd, hDs, hi2⟩ := leave_split hi
  rw [hd]
  obtain ⟨m, us, hK, hrun, hlen, hreps⟩ := results_ok hi2 _ _ hr
  exact leaves_all Ds w' hnd hDs ⟨_, results_run fn a'.tmps _ us hrun, hR _ _ _ _ m us hK hi2 hlen hreps⟩
 cases e with
 | normal => exact fin hk
 | exit i => exact hk.elim
 | ret => exact fin hk
theorem args_fr {r : Nat → Option Nat} {N : Nat → Prop} {G : Bool → Nat → Prop} {w : World} {args : List SV} {vs : Array Value} {n : Nat} (hl : args.length = vs.size) (hn : vs.size ≤ n) (ha : ∀ i sv, args[i]? = some sv → Rep r N G w sv (vs.getD i undef)) (i : Nat) :
  Rep r N G w (look (argFr 0 args) i) ((vs ++ Array.replicate (n - vs.size) undef).getD i undef) := by
 rw [look_argFr]
 simp only [Nat.not_lt_zero, if_false, Nat.sub_zero]
 by_cases hlt : i < args.length
 ·have hi : args[i]? = some (args.getD i .top) := by simp [hlt]
  have e : (vs ++ Array.replicate (n - vs.size) undef).getD i undef = vs.getD i undef := by
   simp only [Array.getD_eq_getD_getElem?]
   rw [Array.getElem?_append_left (by omega)]
  rw [e]; exact ha i _ hi
 ·have : args.getD i .top = .top := by simp only [List.getD_eq_getElem?_getD]; rw [List.getElem?_eq_none (by omega)]; rfl
  rw [this]; exact .top _
def oneSV : List SV → SV
 | [s] => s
 | m => .tup m
theorem oneSV_rep {r : Nat → Option Nat} {N : Nat → Prop} {G : Bool → Nat → Prop} {w : World} {m : List SV} {us : List Value} (hl : m.length = us.length) (h : ∀ i sv, m[i]? = some sv → Rep r N G w sv (us.getD i undef)) : Rep r N G w (oneSV m) (oneOf us) := by
 match m, us, hl, h with
 | [s], [u], _, h => simpa [oneSV, oneOf] using h 0 s rfl
 | [], [], _, _ => exact .tup _ _ rfl fun i sv hi => by simp at hi
 | s1 :: s2 :: m, u1 :: u2 :: us, hl, h => exact .tup _ _ (by simpa using hl) fun i sv hi => by simpa using h i sv hi
theorem retVC_eq (rs : List ResultVar) (st : St) (res : SV) : retVC P rs st res = resultsVC P rs st (fun m => Sub st.hp res (oneSV m)) := by
 unfold retVC
 have : (fun (m : List SV) => match m with | [s] => Sub st.hp res s | m => Sub st.hp res (.tup m)) = fun m => Sub st.hp res (oneSV m) := by
  funext m; match m with
  | [] => rfl
  | [s] => rfl
  | a :: b :: m => rfl
 rw [← this]
abbrev C0F (far : Nat → List (Nat × Nat)) : Ctx := ⟨[], 0, false, far⟩
theorem inv0 {far : Nat → List (Nat × Nat)} {w : World} {okc : Nat → Prop} {args : List SV} {vs : Array Value} {n : Nat} (hl : args.length = vs.size) (hn : args.length ≤ n) (hold : OldL args) (ha : ∀ i sv, args[i]? = some sv → Rep noR noN (fun _ b => okc b ∧ b < w.heap.size) w sv (vs.getD i undef)) :
  Inv (C0F far) w okc n 0 ⟨[], noR⟩ { fr := argFr 0 args, hp := [], nid := 0 } { tmps := vs ++ Array.replicate (n - vs.size) undef, defers := [] } w := by
 refine ⟨noR, ⟨Below.refl _ _, fun id x hx => by simp [blk] at hx, fun id x b hx => by simp [blk] at hx, fun id x id' x' b hx => by simp [blk] at hx⟩, fun id x hx => by simp [blk] at hx,
  args_fr hl (by omega) fun i sv hi => ?_, by simp; omega, Nat.le_refl _, trivial, fun id hid => absurd hid (Nat.not_lt_zero _), ⟨[], rfl, List.nodup_nil, fun D hD => by simp at hD⟩⟩
 refine old_rep (fun b hb => ⟨hb.2, fun id x hx => by simp [blk] at hx, ?_⟩) (ha i sv hi) (oldL_get hold i sv hi)
 simp only [Bool.false_eq_true, if_false]
 exact .inl hb.1
theorem contract_ofF (far : Nat → List (Nat × Nat)) {f : FuncId} {fn : Func} {c : Code} (hf : P.funcs[f]? = some fn) (hb : fn.body = some c) (hname : (fn.name == "runtime.NumGoroutine") = false) (hm : P.follows .mixedOrders = true)
  (hok : codeOkF far fn.ntmps c = true) (args : List SV) (res : SV) (hlen : args.length ≤ fn.ntmps) (hold : OldL args)
  (h : vc P ⟨[], 0, false, far⟩ c { fr := argFr 0 args, hp := [], nid := 0 } (fun e st => match e with | .exit _ => False | _ => retVC P fn.results.toList st res)) : Contract P f args res := by
 refine ⟨⟨fn, hf, hname, by rw [hb]; rfl⟩, fun okc w vs hl ha => calls_of_vc hm hf hb hok (O := C0F far) (st0 := ⟨argFr 0 args, [], 0⟩) rfl (Post := fun st m => Sub st.hp res (oneSV m)) (inv0 hl hlen hold ha) ?_ fun st r a w' m us hP hi hml hreps => ?_⟩
 ·have e : (fun (e : Ex) (st : St) => match e with | .exit _ => False | _ => retVC P fn.results.toList st res) = fun e st => match e with | .exit _ => False | _ => resultsVC P fn.results.toList st (fun m => Sub st.hp res (oneSV m)) := by
   funext e st; cases e <;> first | rfl | exact retVC_eq _ _ _
  rw [e] at h; exact h
 ·refine ⟨_, rfl, hi.sat.below, sub_rep (fun o o' b ho hg => ⟨hg.1, by
   have := hg.2.2
   cases o <;> cases o' <;> simp_all⟩) (fun id x hx hN => ⟨hi.sat.rep id x hx hN, fun b hb o => ⟨hi.sat.lt hx hN hb, by
   have := hi.sat.own id x b hx hN hb
   cases o <;> simp [this]⟩⟩) res _ _ hP (oneSV_rep hml hreps)⟩
theorem contract_of {f : FuncId} {fn : Func} {c : Code} (hf : P.funcs[f]? = some fn) (hb : fn.body = some c) (hname : (fn.name == "runtime.NumGoroutine") = false) (hm : P.follows .mixedOrders = true)
  (hok : codeOk fn.ntmps c = true) (args : List SV) (res : SV) (hlen : args.length ≤ fn.ntmps) (hold : OldL args)
  (h : vc P ⟨[], 0, false, noFar⟩ c { fr := argFr 0 args, hp := [], nid := 0 } (fun e st => match e with | .exit _ => False | _ => retVC P fn.results.toList st res)) : Contract P f args res :=
 contract_ofF noFar hf hb hname hm hok args res hlen hold h
end
end Go.Sx
end
