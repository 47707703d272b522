/- The proof engine. -/
import Derived.Test.YtpdebflfimmnpaaEC
section
set_option linter.unusedVariables false
set_option linter.unusedSimpArgs false
namespace Go.Sx
open Go.RowKit
mutual
def SubO (hp : List (Nat × Blk)) (j : Nat) : SV → SV → Prop
 | .agg l, s => match s with | .agg m => SubOL hp j l m | _ => False
 | .tup l, s => match s with | .tup m => SubOL hp j l m | _ => False
 | .ptr i off, s => match s with | .ptr id2 off2 => i = 0 ∧ id2 = j ∧ off = off2 | _ => False
 | .vec i n k, s => match s with | .vec id2 n2 k2 => i = 0 ∧ id2 = j ∧ n = n2 ∧ k = k2 | _ => False
 | .mp i, s => match s with | .mp id2 => i = 0 ∧ id2 = j | _ => False
 | .fn _ _ _, _ => False
 | .elt _ _ _ _, _ => False
 | .asl _ _ _ _, _ => False
 | .que _ _ _ _, _ => False
 | .cut _ _ _, _ => False
 | .yld _, _ => False
 | .top, s => Sub (dropBlk hp j) .top s
 | .val v, s => Sub (dropBlk hp j) (.val v) s
 | .ref o n row, s => Sub (dropBlk hp j) (.ref o n row) s
 | .arr o full n k row, s => Sub (dropBlk hp j) (.arr o full n k row) s
 | .cmp o fit dom get, s => Sub (dropBlk hp j) (.cmp o fit dom get) s
def SubOL (hp : List (Nat × Blk)) (j : Nat) : List SV → List SV → Prop
 | [], m => m = []
 | a :: l, m => match m with | b :: m => SubO hp j a b ∧ SubOL hp j l m | [] => False
end
def SubB (hp : List (Nat × Blk)) : Blk → Blk → Prop
 | .cells t l, .cells t2 l2 => t = t2 ∧ SubL hp l l2
 | .rows t k n row, .rows t2 k2 n2 row2 => t = t2 ∧ k = k2 ∧ n ≤ n2 ∧ ∀ i j, i < n → j < k → Sub hp (row i j) (row2 i j)
 | .map fit dom get, .map fit2 dom2 get2 => fit = fit2 ∧ dom = dom2 ∧ ∀ key, dom key = true → Sub hp (get key) (get2 key)
 | .map fit dom get, .mapS fit2 dom2 get2 _ _ => fit = fit2 ∧ dom = dom2 ∧ ∀ key, dom key = true → Sub hp (get key) (get2 key)
 | _, _ => False
def ownVC (hp : List (Nat × Blk)) (b : Blk) (res : SV) (s : SV) : Prop :=
 ∃ j b', blk hp j = some b' ∧ SubB (dropBlk hp j) b b' ∧ SubO hp j res s
def retNVC (P : Program) (rs : List ResultVar) (st : St) (b : Blk) (res : SV) : Prop :=
 resultsVC P rs st fun m => match m with
  | [s] => ownVC st.hp b res s
  | m => ownVC st.hp b res (.tup m)
section
variable {r : Nat → Option Nat} {N : Nat → Prop} {G G' : Bool → Nat → Prop} {w : World} {hp : List (Nat × Blk)} {j : Nat}
mutual
theorem subO_rep (hG : ∀ o o' b, (o = true → o' = true) → G o' b → G' o b) (hB : ∀ id x, blk (dropBlk hp j) id = some x → N id → BlkRep r N G w (r id) x ∧ ∀ b, r id = some b → ∀ o, G' o b) :
  ∀ (p s : SV) (v : Value), SubO hp j p s → Rep r N G w s v → Rep (oneR (r j)) oneN G' w p v
 | .agg l, s, v, h, hv => by
  cases s <;> simp only [SubO] at h
  cases hv with
  | agg m cs hl hr =>
   obtain ⟨h1, h2⟩ := subO_repL hG hB l _ cs h hl hr
   exact .agg _ _ h1 h2
 | .tup l, s, v, h, hv => by
  cases s <;> simp only [SubO] at h
  cases hv with
  | tup m cs hl hr =>
   obtain ⟨h1, h2⟩ := subO_repL hG hB l _ cs h hl hr
   exact .tup _ _ h1 h2
 | .ptr i off, s, v, h, hv => by
  cases s <;> simp only [SubO] at h
  obtain ⟨rfl, rfl, rfl⟩ := h
  cases hv with
  | ptr _ _ b hN hr => exact .ptr _ _ b rfl (by simp [oneR, hr])
 | .vec i n k, s, v, h, hv => by
  cases s <;> simp only [SubO] at h
  obtain ⟨rfl, rfl, rfl, rfl⟩ := h
  cases hv with
  | vecNil _ _ hN hr => exact .vecNil _ _ rfl (by simp [oneR, hr])
  | vec _ _ _ b cap cs t hN hr hb hs hcap hm => exact .vec _ _ _ b cap cs t rfl (by simp [oneR, hr]) hb hs hcap hm
 | .mp i, s, v, h, hv => by
  cases s <;> simp only [SubO] at h
  obtain ⟨rfl, rfl⟩ := h
  cases hv with
  | mp _ b hN hr => exact .mp _ b rfl (by simp [oneR, hr])
 | .fn _ _ _, s, v, h, hv => by simp [SubO] at h
 | .elt _ _ _ _, s, v, h, hv => by simp [SubO] at h
 | .asl _ _ _ _, s, v, h, hv => by simp [SubO] at h
 | .que _ _ _ _, s, v, h, hv => by simp [SubO] at h
 | .cut _ _ _, s, v, h, hv => by simp [SubO] at h
 | .yld _, s, v, h, hv => by simp [SubO] at h
 | .top, s, v, h, hv => .top v
 | .val u, s, v, h, hv => closed_rep (fun _ _ h => h) (sub_rep hG hB _ s v h hv)
 | .ref o n row, s, v, h, hv => closed_rep (fun _ _ h => h) (sub_rep hG hB _ s v h hv)
 | .arr o full n k row, s, v, h, hv => closed_rep (fun _ _ h => h) (sub_rep hG hB _ s v h hv)
 | .cmp o fit dom get, s, v, h, hv => closed_rep (fun _ _ h => h) (sub_rep hG hB _ s v h hv)
theorem subO_repL (hG : ∀ o o' b, (o = true → o' = true) → G o' b → G' o b) (hB : ∀ id x, blk (dropBlk hp j) id = some x → N id → BlkRep r N G w (r id) x ∧ ∀ b, r id = some b → ∀ o, G' o b) :
  ∀ (l m : List SV) (cs : Array Value), SubOL hp j l m → m.length = cs.size → (∀ i sv, m[i]? = some sv → Rep r N G w sv (cs.getD i undef)) → l.length = cs.size ∧ ∀ (i : Nat) (a : SV), l[i]? = some a → Rep (oneR (r j)) oneN G' w a (cs.getD i undef)
 | [], m, cs, h, hl, hr => by simp only [SubOL] at h; subst h; exact ⟨hl, fun i a ha => by simp at ha⟩
 | p :: l, m, cs, h, hl, hr => by
  cases m with
  | nil => simp [SubOL] at h
  | cons b m =>
   simp only [SubOL] at h
   have hcs : ∀ i, (cs.extract 1 cs.size).getD i undef = cs.getD (i + 1) undef := fun i => by
    simp only [Array.getD_eq_getD_getElem?, Array.getElem?_extract]
    by_cases hh : i < min cs.size cs.size - 1
    ·rw [if_pos hh, Nat.add_comm]
    ·rw [if_neg hh, Array.getElem?_eq_none (by omega)]
   obtain ⟨h1, h2⟩ := subO_repL hG hB l m (cs.extract 1 cs.size) h.2 (by simp at hl ⊢; omega) (fun i sv hi => by
    rw [hcs]; exact hr (i + 1) sv (by simpa using hi))
   refine ⟨by simp at h1 hl ⊢; omega, fun i a ha => ?_⟩
   cases i with
   | zero => simp at ha; subst ha; exact subO_rep hG hB p b _ h.1 (hr 0 b (by simp))
   | succ i =>
    have := h2 i a (by simpa using ha)
    rwa [hcs] at this
end
end
end Go.Sx
end
section
set_option linter.unusedVariables false
set_option linter.unusedSimpArgs false
namespace Go.Sx
open Go.RowKit
theorem OutOk.low {r r0 : Nat → Option Nat} {lo lo0 : Nat} {G G0 : Bool → Nat → Prop} {w w0 : World} : ∀ {fs : List Fr} {as as0 : List Act}, OutOk r lo G w fs as → OutOk r0 lo0 G0 w0 fs as0 → OutOk r lo0 G w fs as
 | [], [], [], h, _ => h
 | f :: fs, a :: as, a0 :: as0, ⟨h1, h2, h3, h4, h5⟩, ⟨_, k2, _, _, k5⟩ => ⟨h1, k2, h3, h4, OutOk.low h5 k5⟩
section
variable {P : Program} {O : Ctx} {base : World} {okc : Nat → Prop} {ns : Nat} {outs : Outs}
theorem InvR.push {r : Nat → Option Nat} {k : Nat} {st : St} {a : Act} {w : World} (h : InvR O base okc ns k r outs st a w) (rcd : Option Loop) (hrc : ∀ L, rcd = some L → L.tmps = a.tmps) (rnd : Bool) {fr : List (Nat × SV)} {a2 : Act} {n2 : Nat} {nid : Nat}
  (hfr : ∀ i, Rep r (· < k) (Gd base okc r (· < k) st.hp w) w (look fr i) (a2.tmps.getD i undef)) (hs : a2.tmps.size = n2) (hd : a2.defers = []) :
  InvR ⟨⟨st.fr, rcd, ns, k⟩ :: O.fs, k, rnd, noFar⟩ base okc n2 k r ⟨a :: outs.as, r⟩ ⟨fr, st.hp, nid⟩ a2 w := by
 refine ⟨h.sat, h.keys, hfr, hs, Nat.le_refl _, ⟨h.fr, Nat.le_refl _, h.size, hrc, h.out.mono h.lo fun n hn sv v hv => hv⟩, fun _ _ => rfl, ?_⟩
 obtain ⟨Ds, h1, h2, h3⟩ := h.defers
 exact ⟨Ds, by simpa [allD, hd] using h1, h2, h3⟩
theorem InvR.pop {r r0 : Nat → Option Nat} {k k0 : Nat} {st st0 : St} {fr : List (Nat × SV)} {a a0 a2 : Act} {w w0 : World} {rcd : Option Loop} {rnd : Bool} {n2 n0 : Nat} {nid : Nat}
  (h : InvR ⟨⟨fr, rcd, ns, k0⟩ :: O.fs, k0, rnd, noFar⟩ base okc n2 k r ⟨a :: outs.as, r0⟩ st a2 w) (h0 : InvR O base okc n0 k0 r0 outs st0 a0 w0) :
  InvR O base okc ns k r outs ⟨fr, st.hp, nid⟩ a w := by
 obtain ⟨o1, o2, o3, o4, o5⟩ := h.out
 refine ⟨h.sat, h.keys, fun i => (o1 i).mono (fun _ _ => rfl) (fun i hi => Nat.lt_of_lt_of_le hi h.lo) (fun _ _ hg => ⟨hg, rfl⟩) (Shapes.refl _), o3, Nat.le_trans h0.lo h.lo, o5.low h0.out, fun id hid => (h.rfix id (Nat.lt_of_lt_of_le hid h0.lo)).trans (h0.rfix id hid), ?_⟩
 obtain ⟨Ds, h1, h2, h3⟩ := h.defers
 unfold allD at h1
 simp only [List.map_cons, List.flatten_cons] at h1
 obtain ⟨l1, l2, rfl, e1, e2⟩ := List.append_eq_map_iff.1 h1
 exact ⟨l2, e2.symm, (List.nodup_append.1 h2).2.1, fun D hD => h3 D (by simp [hD])⟩
theorem run_callFunc {f : FuncId} {fn : Func} {c : Code} (hf : P.funcs[f]? = some fn) (hb : fn.body = some c) (hname : (fn.name == "runtime.NumGoroutine") = false) (vs : Array Value) (w : World) : (callFunc f vs).run P w = .ok (.enter f vs) w := by
 simp only [callFunc, Sem.run_bind, run_program, Result.andThen_ok, hf, hname, Bool.false_eq_true, if_false, hb, Option.isNone_some, Sem.run_pure]
def putPs : List (Nat × SV) → List Tmp → List SV → List (Nat × SV)
 | fr, p :: ps, a :: as => putPs (putFr fr p a) ps as
 | fr, _, _ => fr
theorem putPs_rep {r : Nat → Option Nat} {N : Nat → Prop} {G : Bool → Nat → Prop} {w : World} {ns : Nat} : ∀ {ps : List Tmp} {args : List SV} {vs : List Value} {fr : List (Nat × SV)} {tmps : Array Value}, (∀ i, Rep r N G w (look fr i) (tmps.getD i undef)) → tmps.size = ns → ps.all (fun t => decide (t < ns)) = true → args.length = vs.length →
  (∀ i sv, args[i]? = some sv → Rep r N G w sv (vs.getD i undef)) →
  (∀ i, Rep r N G w (look (putPs fr ps args) i) (((ps.zip vs).foldl (fun tmps (t, a) => tmps.setIfInBounds t a) tmps).getD i undef)) ∧ ((ps.zip vs).foldl (fun tmps (t, a) => tmps.setIfInBounds t a) tmps).size = ns
 | [], args, vs, fr, tmps, h, hs, _, _, _ => ⟨by simpa [putPs] using h, by simpa using hs⟩
 | p :: ps, [], [], fr, tmps, h, hs, _, _, _ => ⟨by simpa [putPs] using h, by simpa using hs⟩
 | p :: ps, [], _ :: _, _, _, _, _, _, hl, _ => by simp at hl
 | p :: ps, _ :: _, [], _, _, _, _, _, hl, _ => by simp at hl
 | p :: ps, s :: args, v :: vs, fr, tmps, h, hs, hps, hl, ha => by
  simp only [List.all_cons, Bool.and_eq_true, decide_eq_true_eq] at hps
  simp only [putPs, List.zip_cons_cons, List.foldl_cons]
  refine putPs_rep (fun i => ?_) (by simpa using hs) hps.2 (by simpa using hl) fun i sv hi => by simpa using ha (i + 1) sv (by simpa using hi)
  rw [look_put]
  simp only [Array.getD_eq_getD_getElem?, Array.getElem?_setIfInBounds]
  by_cases e : i = p
  ·subst e
   simp only [if_true]
   rw [if_pos (by rw [hs]; exact hps.1)]
   simpa using ha 0 s rfl
  ·rw [if_neg e, if_neg (Ne.symm e)]
   simpa using h i
def roundGo (y : Nat) (L : Loop) (fr : List (Nat × SV)) (K : St → SV → Prop) (hp : List (Nat × Blk)) (nid : Nat) : Ex → Prop
 | .normal => K ⟨fr, setBlk hp y (.loop L .ready), nid⟩ (.val (.bool true))
 | .ret => K ⟨fr, setBlk hp y (.loop L .retd), nid⟩ (.val (.bool false))
 | .exit i => K ⟨fr, setBlk hp y (.loop L (.left i)), nid⟩ (.val (.bool false))
def isBusy (L : Loop) : Option Blk → Prop
 | some (.loop L' .busy) => L' = L
 | _ => False
def isReady (L : Loop) : Option Blk → Prop
 | some (.loop L' .ready) => L' = L
 | _ => False
theorem isBusy_eq {L : Loop} {o : Option Blk} (h : isBusy L o) : o = some (.loop L .busy) := by
 unfold isBusy at h; split at h
 ·rw [h]
 ·exact h.elim
theorem isReady_eq {L : Loop} {o : Option Blk} (h : isReady L o) : o = some (.loop L .ready) := by
 unfold isReady at h; split at h
 ·rw [h]
 ·exact h.elim
def roundEnd (y : Nat) (L : Loop) (fr : List (Nat × SV)) (K : St → SV → Prop) : Ex → St → Prop
 | e, st2 => isBusy L (blk st2.hp y) ∧ roundGo y L fr K st2.hp st2.nid e
def roundMid (P : Program) (O : Ctx) (y : Nat) (L : Loop) (B : Code) (K : Ex → St → Prop) : Ex → St → Prop
 | .normal, st1 => isReady L (blk st1.hp y) ∧ vc P O B ⟨st1.fr, setBlk st1.hp y (.loop L .busy), st1.nid⟩ K
 | _, _ => False
theorem keys_set {hp : List (Nat × Blk)} {y k : Nat} {x x' : Blk} (h : blk hp y = some x) (hk : ∀ id z, blk hp id = some z → id < k) : ∀ id z, blk (setBlk hp y x') id = some z → id < k := fun id z hz => by
 rw [blk_setBlk] at hz
 split at hz
 ·rename_i e; subst e; exact hk _ _ h
 ·exact hk _ _ hz
theorem rec_turn {r : Nat → Option Nat} {k : Nat} {st : St} {a : Act} {w : World} (h : InvR O base okc ns k r outs st a w) {y l : Nat} {L : Loop} {s s' : RSt} (hb : blk st.hp y = some (.loop L s)) (hr : r y = some l) :
  w.heap[l]? = some (.loop { L with state := s.state, pending := s.pend }) ∧ InvR O base okc ns k r outs ⟨st.fr, setBlk st.hp y (.loop L s'), st.nid⟩ a (w.putObj l (.loop { L with state := s'.state, pending := s'.pend })) := by
 have hy := h.keys y _ hb
 have hrep := h.sat.rep y _ hb hy
 rw [hr] at hrep
 cases hrep with
 | loop _ _ _ hl =>
  refine ⟨hl, ?_⟩
  have hs : Step base okc r (· < k) st.hp w r (· < k) (setBlk st.hp y (.loop L s')) (w.putObj l (.loop { L with state := s'.state, pending := s'.pend })) :=
   put_step h.sat hb hy hr hl (fun _ _ _ => by simp) _ (.loop L s') fun G' w' hw' _ => .loop L s' l hw'
  exact h.step hs (keys_set hb h.keys) (Nat.le_refl _) (d := none) (fun t ht => by cases ht) (.top undef)
def rangeGo (fr : List (Nat × SV)) (K : Ex → St → Prop) (hp : List (Nat × Blk)) (nid id : Nat) : RSt → Prop
 | .ready => K .normal ⟨fr, dropBlk hp id, nid⟩
 | .retd => K .ret ⟨fr, dropBlk hp id, nid⟩
 | .left i => K (.exit i) ⟨fr, dropBlk hp id, nid⟩
 | _ => False
def rangeFin (L : Loop) (fr : List (Nat × SV)) (K : Ex → St → Prop) (hp : List (Nat × Blk)) (nid id : Nat) : Option Blk → Prop
 | some (.loop L' s) => L' = L ∧ rangeGo fr K hp nid id s
 | _ => False
theorem rangeFin_eq {L : Loop} {fr : List (Nat × SV)} {K : Ex → St → Prop} {hp : List (Nat × Blk)} {nid id : Nat} {o : Option Blk} (h : rangeFin L fr K hp nid id o) : ∃ s, o = some (.loop L s) ∧ rangeGo fr K hp nid id s := by
 unfold rangeFin at h; split at h
 ·exact ⟨_, by rw [h.1], h.2⟩
 ·exact h.elim
def rangeEnd (id : Nat) (L : Loop) (fr : List (Nat × SV)) (K : Ex → St → Prop) : Ex → St → Prop
 | .exit _, _ => False
 | .normal, st' => rangeFin L fr K st'.hp st'.nid id (blk st'.hp id)
 | .ret, st' => rangeFin L fr K st'.hp st'.nid id (blk st'.hp id)
theorem resultsVC_nil {rs : List ResultVar} (h : rs = []) (st : St) (K : List SV → Prop) : resultsVC P rs st K = K [] := by subst h; rfl
theorem InvR.forget {r : Nat → Option Nat} {k : Nat} {st : St} {a : Act} {w : World} (h : InvR O base okc ns k r outs st a w) (id : Nat) : InvR O base okc ns k r outs ⟨st.fr, dropBlk st.hp id, st.nid⟩ a w :=
 h.step (h.sat.sub (fun j x hx => by
  rw [blk_dropBlk] at hx
  split at hx
  ·cases hx
  ·exact hx)) (fun j x hx => by
  rw [blk_dropBlk] at hx
  split at hx
  ·cases hx
  ·exact h.keys j x hx) (Nat.le_refl _) (d := none) (fun t ht => by cases ht) (.top undef)
set_option maxHeartbeats 1000000 in
open Classical in
noncomputable def stampOf (es : Array MapEntry) (k : Value) : Nat := if h : ∃ e, e ∈ es ∧ e.key = k then (Classical.choose h).born else 0
theorem mrange_vc {t : TypeId} {x : Operand} {mid : Nat} {fit dom : Value → Bool} {get : Value → SV} {st : St} {K : St → SV → Prop} {mi : MapI} (hx : env (look st.fr) x = .mp mid) (ht : mapInfo P t = some mi) (hb : blk st.hp mid = some (.map fit dom get))
  (h : ∀ (stamp : Value → Nat) (clk : Nat), (∀ k, dom k = true → stamp k < clk) → (∀ k k', dom k = true → dom k' = true → stamp k = stamp k' → k = k') →
   K ⟨st.fr, (st.nid, .iter mid clk [] clk) :: setBlk st.hp mid (.mapS fit dom get stamp clk), st.nid + 1⟩ (.ptr st.nid 0)) : OpVC P O (.range t x) st K := by
 intro base okc ns r outs a w o ho hi
 obtain ⟨kt, et, ii, hu, -⟩ := mapInfo_spec ht
 have hv := hi.env x
 rw [hx] at hv
 generalize hex : a.eval x = u at hv
 cases hv with
 | mp _ b hN hr =>
 have hrep := hi.sat.rep mid _ hb hN
 rw [hr] at hrep
 cases hrep with
 | map _ _ _ _ es clock hb' hmo htm hes =>
 have hst : ∀ e, e ∈ es → e.born = stampOf es e.key := fun e he => by
  have hex : ∃ e', e' ∈ es ∧ e'.key = e.key := ⟨e, he, rfl⟩
  unfold stampOf
  rw [dif_pos hex]
  obtain ⟨c1, c2⟩ := Classical.choose_spec hex
  obtain ⟨i, hi⟩ := Array.mem_iff_getElem?.1 he
  obtain ⟨j, hj⟩ := Array.mem_iff_getElem?.1 c1
  have := hmo.once i j _ _ hi hj c2.symm
  subst this
  rw [hi] at hj
  injection hj with hj
  rw [← hj]
 have s1 : Step base okc r (· < st.nid) st.hp w r (· < st.nid) (setBlk st.hp mid (.mapS fit dom get (stampOf es) clock)) w := hi.sat.same hb fun G' hG' _ => by
  rw [hr]
  exact .mapS fit dom get _ b es clock hb' hmo htm hst fun e he => (hes e he).mono (fun _ _ => rfl) (fun _ h => h) (fun o c hc => ⟨hG' o c hc, rfl⟩) (Shapes.refl w)
 have hi1 : InvR O base okc ns st.nid r outs ⟨st.fr, setBlk st.hp mid (.mapS fit dom get (stampOf es) clock), st.nid⟩ a w := hi.step s1 (keys_set hb hi.keys) (Nat.le_refl _) (d := none) (fun t ht => by cases ht) (.top undef)
 have s2 := hi1.sat.new (hp' := (st.nid, .iter mid clock [] clock) :: setBlk st.hp mid (.mapS fit dom get (stampOf es) clock)) st.nid (by simp) (.mapIter (some b) clock #[] clock) (.iter mid clock [] clock) (by simp [blk]) (fun j hj => by simp only [blk]; rw [if_neg (by omega)]) fun r' N' G' e1 _ e3 _ _ =>
  .iter mid clock [] clock _ b (e3 _ hN) ((e1 _ hN).trans hr) (heap_alloc_at w _)
 rw [plus_lt] at s2
 have hi2 := hi1.step s2 (fun id y hy => by
   simp only [blk] at hy
   split at hy
   ·omega
   ·have := hi1.keys id y hy; omega) (by omega) (d := none) (fun t ht => by cases ht) (.top undef)
 refine ⟨.pointer (some ⟨w.heap.size, 0, none⟩), w.alloc (.mapIter (some b) clock #[] clock), ?_, ⟨st.fr, (st.nid, .iter mid clock [] clock) :: setBlk st.hp mid (.mapS fit dom get (stampOf es) clock), st.nid + 1⟩, _, .ptr st.nid 0, h _ _ (fun k hk => ?_) (fun k k' hk hk' e => ?_), Nat.le_succ _, hi2.nid _, .ptr _ _ _ (Nat.lt_succ_self _) (upd_same _ _ _)⟩
 ·have e : execOp a.eval o = (do pure (.value (← Instr.range t (a.eval x)))) := by
   obtain ⟨dst, op, type, pos, aft, guard⟩ := o
   simp only [] at ho; subst ho; rfl
  rw [e, hex]
  simp only [Sem.run_bind, Instr.range, run_underlying hu, Result.andThen_ok]
  have hobj : (getObj b).run P w = .ok (.map es clock) w := by simp [getObj, Sem.run, hb']
  simp only [Sem.run_bind, hobj, Result.andThen_ok, Sem.run_pure, run_newObj]
  rfl
 ·obtain ⟨e, he, hk'⟩ := hmo.has k hk
  rw [← hk', ← hst e he]; exact htm.lt e he
 ·obtain ⟨e1, he1, hk1⟩ := hmo.has k hk
  obtain ⟨e2, he2, hk2⟩ := hmo.has k' hk'
  rw [← hk1, ← hk2, ← hst e1 he1, ← hst e2 he2] at e
  obtain ⟨i, hi⟩ := Array.mem_iff_getElem?.1 he1
  obtain ⟨j, hj⟩ := Array.mem_iff_getElem?.1 he2
  have := htm.once i j _ _ hi hj e
  subst this
  rw [hi] at hj
  injection hj with hj
  rw [← hk1, ← hk2, hj]
theorem next_run {w : World} {ty : TypeId} {it bm clk : Nat} {seen : List Nat} {es : Array MapEntry} (hit : w.heap[it]? = some (.mapIter (some bm) clk seen.toArray clk)) (hb : w.heap[bm]? = some (.map es clk)) (hold : ∀ x ∈ es, x.born < clk) :
  ((∀ e ∈ es, e.born ∈ seen) ∧ (Instr.next (.pointer (some ⟨it, 0, none⟩)) false ty).run P w = .ok (.tuple #[.bool false]) w) ∨
  ∃ e ∈ es, e.born ∉ seen ∧ ∃ n, (Instr.next (.pointer (some ⟨it, 0, none⟩)) false ty).run P w = .ok (.tuple #[.bool true, e.key, e.val]) (({ w with drawn := n } : World).putObj it (.mapIter (some bm) clk (seen ++ [e.born]).toArray clk)) := by
 have ht := next_test_false seen.toArray es clk clk (fun x hx => hold x (by simpa using hx)) (Nat.le_refl _)
 simp only [Instr.next, getObj, Sem.run_bind, Sem.run, hit, hb, Result.andThen, ht, Bool.false_eq_true, if_false]
 have hmem : ∀ x ∈ (Array.filter (fun e => !seen.toArray.contains e.born) es), x ∈ es ∧ x.born ∉ seen := fun x hx => by
  simp at hx; exact hx
 have hall : ∀ x ∈ es, x.born ∉ seen → x ∈ Array.filter (fun e => !seen.toArray.contains e.born) es := fun x hx hs => by simp; exact ⟨hx, hs⟩
 generalize Array.filter (fun e => !seen.toArray.contains e.born) es = L at hmem hall ⊢
 have e1 : L.filter (fun x => decide (x.born < clk)) = L := Array.filter_eq_self.2 (fun x hx => by simpa using hold x (hmem x hx).1)
 have e2 : L.filter (fun x => decide (x.born ≥ clk)) = #[] := by
  rw [Array.filter_eq_empty_iff]
  intro x hx
  have := hold x (hmem x hx).1
  simp
  omega
 simp only [e1, e2, Array.append_empty]
 by_cases h0 : L.size = 0
 ·left
  have : L = #[] := Array.eq_empty_of_size_eq_zero h0
  subst this
  refine ⟨fun e he => ?_, ?_⟩
  ·refine Classical.byContradiction fun hn => ?_
   have := hall e he hn
   simp at this
  ·simp [choose, Sem.run, Question.forced]
 ·right
  have hne : L.isEmpty = false := by simp [Array.isEmpty, h0]
  simp only [hne, Bool.false_eq_true, if_false, Array.empty_append, Array.size_map]
  have hch : ∃ (j : Nat) (n : Nat), j < L.size ∧ (choose (Question.mapNext L.size)).run P w = .ok j { w with drawn := n } := by
   by_cases hf : L.size ≤ 1
   ·exact ⟨0, w.drawn, by omega, by simp [choose, Sem.run, Question.forced, hf]⟩
   ·exact ⟨_, w.drawn + 1, Nat.mod_lt _ (by omega), by
     simp only [choose, Sem.run, Question.forced, decide_eq_true_eq, hf, if_false, Question.cut]
     rfl⟩
  obtain ⟨j, n, hj, hrun⟩ := hch
  obtain ⟨m1, m2⟩ := hmem L[j] (Array.getElem_mem hj)
  refine ⟨L[j], m1, m2, n, ?_⟩
  have hset : ∀ (o' : Obj), (setObj it o').run P { w with drawn := n } = .ok () (({ w with drawn := n } : World).putObj it o') := fun o' => by
   simp [setObj, Sem.run, hit, World.putObj]
  simp only [hrun, Array.getElem?_map, Array.getElem?_eq_getElem hj, Option.map_some, Sem.run_bind, hset, Result.andThen]
  simp
theorem mnext_vc {x : Operand} {iid mid clk : Nat} {seen : List Nat} {fit dom : Value → Bool} {get : Value → SV} {stamp : Value → Nat} {st : St} {K : St → SV → Prop} (hx : env (look st.fr) x = .ptr iid 0) (hbi : blk st.hp iid = some (.iter mid clk seen clk)) (hbm : blk st.hp mid = some (.mapS fit dom get stamp clk))
  (h1 : ∀ k, fit k = true → dom k = true → stamp k ∉ seen → K ⟨st.fr, setBlk st.hp iid (.iter mid clk (seen ++ [stamp k]) clk), st.nid⟩ (.tup [.val (.bool true), .val k, get k]))
  (h2 : (∀ k, dom k = true → stamp k ∈ seen) → K st (.tup [.val (.bool false)])) : OpVC P O (.next x false) st K := by
 intro base okc ns r outs a w o ho hi
 have hv := hi.env x
 rw [hx] at hv
 generalize hex : a.eval x = u at hv
 cases hv with
 | ptr _ _ it hN hrit =>
 have hri := hi.sat.rep iid _ hbi hN
 rw [hrit] at hri
 cases hri with
 | iter _ _ _ _ _ bm hNm hrm hit =>
 have hrm' := hi.sat.rep mid _ hbm hNm
 rw [hrm] at hrm'
 cases hrm' with
 | mapS _ _ _ _ _ es _ hb' hmo htm hst hes =>
 have e : execOp a.eval o = (do pure (.value (← Instr.next (a.eval x) false o.type))) := by
  obtain ⟨dst, op, type, pos, aft, guard⟩ := o
  simp only [] at ho; subst ho; rfl
 rcases next_run (P := P) (ty := o.type) hit hb' htm.lt with ⟨hall, hrun⟩ | ⟨e', he', hns, n, hrun⟩
 ·refine ⟨_, w, by rw [e, hex, Sem.run_bind, hrun]; rfl, st, r, _, h2 fun k hk => ?_, Nat.le_refl _, hi, .tup _ _ rfl fun i sv hi => ?_⟩
  ·obtain ⟨e', he', hk'⟩ := hmo.has k hk
   rw [← hk', ← hst e' he']; exact hall e' he'
  ·match i, hi with
   | 0, hi => simp at hi; subst hi; exact .val _
 ·have hdrew : Below w.heap.size w { w with drawn := n } := ⟨rfl, rfl, rfl, Nat.le_refl _, fun _ _ => rfl⟩
  have hi1 : InvR O base okc ns st.nid r outs st a { w with drawn := n } := hi.step (hi.sat.grow hdrew) hi.keys (Nat.le_refl _) (d := none) (fun t ht => by cases ht) (.top undef)
  have hs2 : Step base okc r (· < st.nid) st.hp { w with drawn := n } r (· < st.nid) (setBlk st.hp iid (.iter mid clk (seen ++ [e'.born]) clk)) (({ w with drawn := n } : World).putObj it (.mapIter (some bm) clk (seen ++ [e'.born]).toArray clk)) :=
   put_step hi1.sat hbi hN hrit (old := .mapIter (some bm) clk seen.toArray clk) hit (fun _ _ _ => by simp) _ (.iter mid clk (seen ++ [e'.born]) clk) fun G' w' hw' _ => .iter mid clk _ clk it bm hNm hrm hw'
  have hi2 := hi1.step hs2 (keys_set hbi hi1.keys) (Nat.le_refl _) (d := none) (fun t ht => by cases ht) (.top undef)
  have hk := h1 e'.key (hmo.fits e' he') (hmo.doms e' he') (by rw [← hst e' he']; exact hns)
  rw [← hst e' he'] at hk
  refine ⟨_, _, by rw [e, hex, Sem.run_bind, hrun]; rfl, _, r, _, hk, Nat.le_refl _, hi2, .tup _ _ rfl fun i sv hq => ?_⟩
  match i, hq with
  | 0, hq => simp at hq; subst hq; exact .val _
  | 1, hq => simp at hq; subst hq; exact .val _
  | 2, hq => simp at hq; subst hq; exact hs2.rep ((hi.sat.grow hdrew).rep (hes e' he'))
def IsVal (s : SV) (k : Value) : Prop := ∀ (r : Nat → Option Nat) (N : Nat → Prop) (G : Bool → Nat → Prop) (w : World), Rep r N G w s k
theorem isVal_agg (l : List Value) : IsVal (.agg (l.map .val)) (.agg l.toArray) := fun r N G w => .agg _ _ (by simp) fun i sv hi => by
 simp only [List.getElem?_map, Option.map_eq_some_iff] at hi
 obtain ⟨v, hv, rfl⟩ := hi
 have : l.toArray.getD i undef = v := by simp [Array.getD_eq_getD_getElem?, hv]
 rw [this]; exact .val v
theorem mentry_vc {s : SV} {x : Operand} {iid mid clk : Nat} {seen : List Nat} {fit dom : Value → Bool} {get : Value → SV} {stamp : Value → Nat} {st : St} {K : St → SV → Prop} {k : Value} (hx : env (look st.fr) x = .ptr iid 0) (hbi : blk st.hp iid = some (.iter mid clk (seen ++ [stamp k]) clk)) (hbm : blk st.hp mid = some (.mapS fit dom get stamp clk))
  (hd : dom k = true) (hs : IsVal s k) (h : K st (.tup [s, get k])) : OpVC P O (.entry x) st K := by
 intro base okc ns r outs a w o ho hi
 have hv := hi.env x
 rw [hx] at hv
 generalize hex : a.eval x = u at hv
 cases hv with
 | ptr _ _ it hN hrit =>
 have hri := hi.sat.rep iid _ hbi hN
 rw [hrit] at hri
 cases hri with
 | iter _ _ _ _ _ bm hNm hrm hit =>
 have hrm' := hi.sat.rep mid _ hbm hNm
 rw [hrm] at hrm'
 cases hrm' with
 | mapS _ _ _ _ _ es _ hb' hmo htm hst hes =>
 have e : execOp a.eval o = (do pure (.value (← Instr.entry (a.eval x)))) := by
  obtain ⟨dst, op, type, pos, aft, guard⟩ := o
  simp only [] at ho; subst ho; rfl
 obtain ⟨e0, he0, hk0⟩ := hmo.has k hd
 have hfind : es.find? (fun e => e.born == stamp k) = some e0 := by
  cases hf : es.find? (fun e => e.born == stamp k) with
  | none =>
   have := Array.find?_eq_none.1 hf e0 he0
   simp [hst e0 he0, hk0] at this
  | some e1 =>
   have h1 := Array.find?_some hf
   have h2 := Array.mem_of_find?_eq_some hf
   obtain ⟨i, hi⟩ := Array.mem_iff_getElem?.1 he0
   obtain ⟨j, hj⟩ := Array.mem_iff_getElem?.1 h2
   have := htm.once i j _ _ hi hj (by rw [hst e0 he0, hk0]; simpa using (beq_iff_eq.1 h1).symm)
   subst this
   rw [hi] at hj; exact hj.symm
 refine ⟨.tuple #[e0.key, e0.val], w, ?_, st, r, _, h, Nat.le_refl _, hi, .tup _ _ rfl fun i sv hq => ?_⟩
 ·rw [e, hex]
  have hback : (seen ++ [stamp k]).toArray.back? = some (stamp k) := by simp
  simp only [Sem.run_bind, Instr.entry, getObj, Sem.run, hit, hback, Result.andThen]
  simp [Sem.run, hb', hfind]
 ·match i, hq with
  | 0, hq => simp at hq; subst hq; simp; rw [hk0]; exact hs _ _ _ _
  | 1, hq => simp at hq; subst hq; have := hes e0 he0; rw [hk0] at this; exact this
end
end Go.Sx
end
section
set_option linter.unusedVariables false
set_option linter.unusedSimpArgs false
namespace Go.Sx
open Go.RowKit
inductive Tag.{u} {α : Sort u} (a : α) : Type
 | mk
section
variable {P : Program} {O : Ctx}
def splitT (g : Bool) (A B : Prop) (_ : Tag A) (_ : Tag B) : Prop := SplitVC g A B
def guardT (v : SV) (t : Tmp) (want : Bool) (st : St) (run skip : St → Prop) (_ : Tag run) (_ : Tag skip) : Prop :=
 match v with
 | .val (.bool b) => match want with
  | true => SplitVC b (run (st.put (some t) (.val (.bool true)))) (skip (st.put (some t) (.val (.bool false))))
  | false => SplitVC b (skip (st.put (some t) (.val (.bool true)))) (run (st.put (some t) (.val (.bool false))))
 | .val (.tuple _) => skip st
 | _ => False
def guardN (t : Option Tmp) (want : Bool) (st : St) (run skip : St → Prop) : Prop :=
 match t with
 | none => False
 | some t => guardT (look st.fr t) t want st run skip .mk .mk
theorem guardVC_none (ds : List (Option Tmp)) (st : St) (run skip : St → Prop) : guardVC ds none st run skip = run st := rfl
theorem guardVC_some (ds : List (Option Tmp)) (j : Nat) (want : Bool) (st : St) (run skip : St → Prop) : guardVC ds (some (j, want)) st run skip = guardN (nth ds j) want st run skip := by
 unfold guardVC guardN guardT
 rfl
def guardNT (t : Option Tmp) (want : Bool) (st : St) (run skip : St → Prop) (_ : Tag run) (_ : Tag skip) : Prop := guardN t want st run skip
theorem guardVC_someT (ds : List (Option Tmp)) (j : Nat) (want : Bool) (st : St) (run skip : St → Prop) : guardVC ds (some (j, want)) st run skip = guardNT (nth ds j) want st run skip .mk .mk := guardVC_some ds j want st run skip
theorem guardN_some (t : Tmp) (want : Bool) (st : St) (run skip : St → Prop) (x : Tag run) (y : Tag skip) : guardNT (some t) want st run skip x y = guardT (look st.fr t) t want st run skip .mk .mk := rfl
theorem guardB_t (b : Bool) (t : Tmp) (st : St) (run skip : St → Prop) (x : Tag run) (y : Tag skip) : guardT (.val (.bool b)) t true st run skip x y = splitT b (run (st.put (some t) (.val (.bool true)))) (skip (st.put (some t) (.val (.bool false)))) .mk .mk := rfl
theorem guardB_f (b : Bool) (t : Tmp) (st : St) (run skip : St → Prop) (x : Tag run) (y : Tag skip) : guardT (.val (.bool b)) t false st run skip x y = splitT b (skip (st.put (some t) (.val (.bool true)))) (run (st.put (some t) (.val (.bool false)))) .mk .mk := rfl
theorem guardB_u (vs : Array Value) (t : Tmp) (want : Bool) (st : St) (run skip : St → Prop) (x : Tag run) (y : Tag skip) : guardT (.val (.tuple vs)) t want st run skip x y = skip st := rfl
theorem splitT_true (A B : Prop) (x : Tag A) (y : Tag B) : splitT true A B x y = A := split_true A B
theorem splitT_false (A B : Prop) (x : Tag A) (y : Tag B) : splitT false A B x y = B := split_false A B
theorem splitT_not (g : Bool) (A B : Prop) (x : Tag A) (y : Tag B) : splitT (!g) A B x y = splitT g B A .mk .mk := split_not g A B
theorem splitT_and (g g' : Bool) (A B : Prop) (x : Tag A) (y : Tag B) : splitT (g && g') A B x y = splitT g (splitT g' A B .mk .mk) B .mk .mk := by cases g <;> cases g' <;> simp [splitT, SplitVC]
theorem splitT_or (g g' : Bool) (A B : Prop) (x : Tag A) (y : Tag B) : splitT (g || g') A B x y = splitT g A (splitT g' A B .mk .mk) .mk .mk := by cases g <;> cases g' <;> simp [splitT, SplitVC]
def resT (P : Program) (O : Ctx) {J : Prop} (_ : Tag J) {op : Op} (_ : Tag op) (d : Option Tmp) (id : Nat) (st : St) (K : St → Prop) (_ : Tag K) (x : Res) : Prop := resVC P O J op d id st K x
section
variable {J : Prop} {j : Tag J} {op : Op} {o : Tag op}
theorem resVC_pure (d : Option Tmp) (id : Nat) (st : St) (K : St → Prop) (g : Tag K) (obl : Prop) (r : SV) : resT P O j o d id st K g (.pure obl r) = (obl ∧ K (st.put d r)) := rfl
theorem resVC_get (d : Option Tmp) (id : Nat) (st : St) (K : St → Prop) (g : Tag K) (r : SV) : resT P O j o d id st K g (.ex fun s => some r = some s) = K (st.put d r) := by
 simp [resT, resVC]
theorem resVC_new (d : Option Tmp) (id : Nat) (fr : List (Nat × SV)) (hp : List (Nat × Blk)) (nid : Nat) (K : St → Prop) (g : Tag K) (obl : Prop) (b : Blk) (mk : Nat → SV) : resT P O j o d id ⟨fr, hp, nid⟩ K g (.new obl b mk) = (obl ∧ K (St.put ⟨fr, (id, b) :: hp, nid⟩ d (mk id))) := rfl
theorem resVC_upd (d : Option Tmp) (id : Nat) (fr : List (Nat × SV)) (hp : List (Nat × Blk)) (nid : Nat) (K : St → Prop) (g : Tag K) (obl : Prop) (i : Nat) (b : Blk) : resT P O j o d id ⟨fr, hp, nid⟩ K g (.upd obl i b) = (obl ∧ K (St.put ⟨fr, setBlk hp i b, nid⟩ d undefSV)) := rfl
theorem resVC_updv (d : Option Tmp) (id : Nat) (fr : List (Nat × SV)) (hp : List (Nat × Blk)) (nid : Nat) (K : St → Prop) (g : Tag K) (obl : Prop) (i : Nat) (b : Blk) (sv : SV) : resT P O j o d id ⟨fr, hp, nid⟩ K g (.updv obl i b sv) = (obl ∧ K (St.put ⟨fr, setBlk hp i b, nid⟩ d sv)) := rfl
theorem resVC_grow (d : Option Tmp) (id : Nat) (fr : List (Nat × SV)) (hp : List (Nat × Blk)) (nid : Nat) (K : St → Prop) (g : Tag K) (obl : Prop) (i : Nat) (b : Blk) (mk : Nat → SV) : resT P O j o d id ⟨fr, hp, nid⟩ K g (.grow obl i b mk) = ((obl ∧ i ≠ id) ∧ K (St.put ⟨fr, (id, b) :: dropBlk hp i, nid⟩ d (mk id))) := rfl
def CallOr (P : Program) (O : Ctx) (_ : Tag J) (d : Option Tmp) (id : Nat) (fr : List (Nat × SV)) (hp : List (Nat × Blk)) (nid : Nat) (K : St → Prop) (_ : Tag K) (f : FuncId) (args : List SV) : Prop :=
 CallVC P hp f args (fun r => K (St.put ⟨fr, hp, nid⟩ d r)) ∨ CallNVC P hp f args (fun b res => K (St.put ⟨fr, (id, b) :: hp, nid⟩ d (setId id res))) ∨ (J ∧ InlineVC P O f args ⟨fr, hp, id⟩ fun st' res => K (st'.put d res))
theorem resVC_call (d : Option Tmp) (id : Nat) (fr : List (Nat × SV)) (hp : List (Nat × Blk)) (nid : Nat) (K : St → Prop) (g : Tag K) (f : FuncId) (args : List SV) : resT P O j o d id ⟨fr, hp, nid⟩ K g (.call f args) = CallOr P O j d id fr hp nid K .mk f args := rfl
def YieldOr (P : Program) (O : Ctx) (_ : Tag J) (d : Option Tmp) (id : Nat) (fr : List (Nat × SV)) (hp : List (Nat × Blk)) (K : St → Prop) (_ : Tag K) (y : Nat) (args : List SV) : Prop :=
 J ∧ YieldVC P O y args ⟨fr, hp, id⟩ fun st' res => K (st'.put d res)
theorem resVC_yield (d : Option Tmp) (id : Nat) (fr : List (Nat × SV)) (hp : List (Nat × Blk)) (nid : Nat) (K : St → Prop) (g : Tag K) (y : Nat) (args : List SV) : resT P O j o d id ⟨fr, hp, nid⟩ K g (.yield y args) = YieldOr P O j d id fr hp K .mk y args := rfl
def OpOr (P : Program) (O : Ctx) (_ : Tag J) (_ : Tag op) (d : Option Tmp) (id : Nat) (fr : List (Nat × SV)) (hp : List (Nat × Blk)) (K : St → Prop) (_ : Tag K) : Prop :=
 J ∧ OpVC P O op ⟨fr, hp, id⟩ fun st' res => K (st'.put d res)
theorem resVC_raw (d : Option Tmp) (id : Nat) (fr : List (Nat × SV)) (hp : List (Nat × Blk)) (nid : Nat) (K : St → Prop) (g : Tag K) : resT P O j o d id ⟨fr, hp, nid⟩ K g .raw = OpOr P O j o d id fr hp K .mk := rfl
end
theorem putI_some (fr : List (Nat × SV)) (hp : List (Nat × Blk)) (nid : Nat) (d : Tmp) (v : SV) : St.putI ⟨fr, hp, nid⟩ (some d) v = ⟨putIn fr d v, hp, nid⟩ := rfl
theorem putI_none (st : St) (v : SV) : St.putI st none v = st := rfl
theorem put_some (fr : List (Nat × SV)) (hp : List (Nat × Blk)) (nid : Nat) (d : Tmp) (v : SV) : St.put ⟨fr, hp, nid⟩ (some d) v = ⟨putFr fr d v, hp, nid⟩ := rfl
theorem put_none (st : St) (v : SV) : st.put none v = st := rfl
theorem opsVC_nil (J : Prop) (ds : List (Option Tmp)) (i : Nat) (st : St) (K : St → Prop) : opsVC P O J ds [] i st K = K st := rfl
theorem opsVC_cons (J : Prop) (ds : List (Option Tmp)) (d : Option Tmp) (op : Op) (ty : TypeId) (pos : String) (af : Array Edge) (g : Option (Nat × Bool)) (rest : List Oper) (i : Nat) (st : St) (K : St → Prop) : opsVC P O J ds (⟨d, op, ty, pos, af, g⟩ :: rest) i st K =
  guardVC ds g st (fun st => resT P O (Tag.mk : Tag J) (Tag.mk : Tag op) d (st.nid + i) st (fun st => opsVC P O J ds rest (i + 1) st K) .mk (stepR P (look st.fr) st.hp op)) (fun st => opsVC P O J ds rest (i + 1) (st.put d undefSV) K) := rfl
def condT (P : Program) (v : SV) (A B : Prop) (_ : Tag A) (_ : Tag B) : Prop := CondVC P v A B
theorem vc_skip (st : St) (K : Ex → St → Prop) : vc P O .skip st K = K .normal st := rfl
theorem vc_label (l : Nat) (st : St) (K : Ex → St → Prop) : vc P O (.label l) st K = K .normal st := rfl
theorem vc_seq (a b : Code) (st : St) (K : Ex → St → Prop) : vc P O (.seq a b) st K = vc P O a st (thenK K fun st' => vc P O b st' K) := rfl
theorem vc_cond (c : Operand) (t e : Code) (st : St) (K : Ex → St → Prop) : vc P O (.cond c t e) st K = condT P (env (look st.fr) c) (vc P O t st K) (vc P O e st K) .mk .mk := rfl
theorem vc_block (id : Nat) (c : Code) (st : St) (K : Ex → St → Prop) : vc P O (.block id c) st K = vc P O c st (blockK id K) := rfl
theorem vc_exit (id : Nat) (st : St) (K : Ex → St → Prop) : vc P O (.exit id) st K = K (.exit id) st := rfl
theorem vc_ret (st : St) (K : Ex → St → Prop) : vc P O .ret st K = K .ret st := rfl
theorem vc_scope (c : Code) (st : St) (K : Ex → St → Prop) : vc P O (.scope c) st K = vc P O c st K := rfl
theorem vc_region {fs : List Fr} {lo : Nat} {rnd : Bool} (id : Nat) (ops : List Oper) (d : Bool) (st : St) (K : Ex → St → Prop) : vc P ⟨fs, lo, rnd, noFar⟩ (.region id ops.toArray d) st K = opsVC P ⟨fs, lo, rnd, noFar⟩ (inlOk d ops = true) (dsts ops) ops 0 st (fun st' => K .normal ⟨st'.fr, st'.hp, st'.nid + ops.length⟩) := rfl
theorem vc_regionN {fs : List Fr} {lo : Nat} {rnd : Bool} {n : Nat} {l : List (Nat × Nat)} (id : Nat) (ops : List Oper) (d : Bool) (st : St) (K : Ex → St → Prop) (h : id ≠ n) : vc P ⟨fs, lo, rnd, farAt n l⟩ (.region id ops.toArray d) st K = opsVC P ⟨fs, lo, rnd, farAt n l⟩ (inlOk d ops = true) (dsts ops) ops 0 st (fun st' => K .normal ⟨st'.fr, st'.hp, st'.nid + ops.length⟩) := by
 have e : farAt n l id = [] := by simp [farAt, h]
 show (if isHand (farAt n l id) = true then _ else opsVC P _ _ _ _ 0 st (fun st' => FarVC ((farAt n l) id) st' (K .normal ⟨st'.fr, st'.hp, st'.nid + ops.length⟩))) = _
 rw [e]; rfl
theorem vc_regionF {fs : List Fr} {lo : Nat} {rnd : Bool} {x y : Nat} {l : List (Nat × Nat)} (n : Nat) (ops : List Oper) (d : Bool) (st : St) (K : Ex → St → Prop) (hxy : x ≠ y) : vc P ⟨fs, lo, rnd, farAt n ((x, y) :: l)⟩ (.region n ops.toArray d) st K = opsVC P ⟨fs, lo, rnd, farAt n ((x, y) :: l)⟩ (inlOk d ops = true) (dsts ops) ops 0 st (fun st' => FarVC ((x, y) :: l) st' (K .normal ⟨st'.fr, st'.hp, st'.nid + ops.length⟩)) := by
 have e : farAt n ((x, y) :: l) n = (x, y) :: l := by simp [farAt]
 show (if isHand (farAt n ((x, y) :: l) n) = true then _ else opsVC P _ _ _ _ 0 st (fun st' => FarVC ((farAt n ((x, y) :: l)) n) st' (K .normal ⟨st'.fr, st'.hp, st'.nid + ops.length⟩))) = _
 rw [e, if_neg (by simp [isHand, hxy])]
def HandT (P : Program) (O : Ctx) (id : Nat) (ops : List Oper) (d : Bool) (st : St) (K : Ex → St → Prop) (_ : Tag K) : Prop := RawVC P O (.region id ops.toArray d) st K
theorem vc_regionH {fs : List Fr} {lo : Nat} {rnd : Bool} (n : Nat) (ops : List Oper) (d : Bool) (st : St) (K : Ex → St → Prop) : vc P ⟨fs, lo, rnd, handAt n⟩ (.region n ops.toArray d) st K = HandT P ⟨fs, lo, rnd, handAt n⟩ n ops d st K .mk := by
 have e : handAt n n = [(0, 0)] := by simp [handAt, farAt]
 show (if isHand (handAt n n) = true then RawVC P _ (.region n ops.toArray d) st K else _) = _
 rw [e, if_pos (by rfl)]; rfl
theorem vc_regionHN {fs : List Fr} {lo : Nat} {rnd : Bool} {n : Nat} (id : Nat) (ops : List Oper) (d : Bool) (st : St) (K : Ex → St → Prop) (h : id ≠ n) : vc P ⟨fs, lo, rnd, handAt n⟩ (.region id ops.toArray d) st K = opsVC P ⟨fs, lo, rnd, handAt n⟩ (inlOk d ops = true) (dsts ops) ops 0 st (fun st' => K .normal ⟨st'.fr, st'.hp, st'.nid + ops.length⟩) := vc_regionN id ops d st K h
theorem farVC_nil (st : St) (X : Prop) : FarVC [] st X = X := rfl
theorem farVC_cons (a b : Nat) (l : List (Nat × Nat)) (fr : List (Nat × SV)) (hp : List (Nat × Blk)) (nid : Nat) (X : Prop) : FarVC ((a, b) :: l) ⟨fr, hp, nid⟩ X = (Apart (look fr a) (look fr b) ∧ FarVC l ⟨fr, hp, nid⟩ X) := rfl
theorem apart_pp (i j o o' : Nat) : Apart (.ptr i o) (.ptr j o') = (i ≠ j) := rfl
theorem apart_pe (i j o k x y : Nat) : Apart (.ptr i o) (.elt j k x y) = (i ≠ j) := rfl
theorem apart_ep (i j o k x y : Nat) : Apart (.elt j k x y) (.ptr i o) = (j ≠ i) := rfl
theorem apart_ee (i j k x y k' x' y' : Nat) : Apart (.elt i k x y) (.elt j k' x' y') = (i ≠ j) := rfl
theorem apart_ref (o : Bool) (n : Nat) (row : Nat → SV) (s : SV) : Apart (.ref o n row) s = True := by unfold Apart addrBlk; rfl
def LoopOr (P : Program) (O : Ctx) (c : Code) (st : St) (K : Ex → St → Prop) (_ : Tag K) : Prop := LoopVC O (vc P O c) st K ∨ RawVC P O (.loop c) st K
def RawT (P : Program) (O : Ctx) (c : Code) (st : St) (K : Ex → St → Prop) (_ : Tag K) : Prop := RawVC P O c st K
theorem vc_loop (c : Code) (st : St) (K : Ex → St → Prop) : vc P O (.loop c) st K = LoopOr P O c st K .mk := rfl
theorem vc_range (x : Operand) (ps : Array Tmp) (a b : Code) (st : St) (K : Ex → St → Prop) : vc P O (.rangeFunc x ps a b) st K = RawT P O (.rangeFunc x ps a b) st K .mk := rfl
theorem thenK_normal (K : Ex → St → Prop) (n : St → Prop) (st : St) : thenK K n .normal st = n st := rfl
theorem thenK_exit (K : Ex → St → Prop) (n : St → Prop) (id : Nat) (st : St) : thenK K n (.exit id) st = K (.exit id) st := rfl
theorem thenK_ret (K : Ex → St → Prop) (n : St → Prop) (st : St) : thenK K n .ret st = K .ret st := rfl
theorem blockK_normal (K : Ex → St → Prop) (id : Nat) (st : St) : blockK id K .normal st = K .normal st := rfl
def iteT (c : Prop) [Decidable c] (A B : Prop) (_ : Tag A) (_ : Tag B) : Prop := if c then A else B
theorem blockK_exit (K : Ex → St → Prop) (id i : Nat) (st : St) : blockK id K (.exit i) st = iteT (i = id) (K .normal st) (K (.exit i) st) .mk .mk := rfl
theorem iteT_true (A B : Prop) (x : Tag A) (y : Tag B) (h : Decidable True) : @iteT True h A B x y = A := by simp [iteT]
theorem iteT_false (A B : Prop) (x : Tag A) (y : Tag B) (h : Decidable False) : @iteT False h A B x y = B := by simp [iteT]
theorem blockK_ret (K : Ex → St → Prop) (id : Nat) (st : St) : blockK id K .ret st = K .ret st := rfl
theorem condVC_bool (b : Bool) (A B : Prop) (x : Tag A) (y : Tag B) : condT P (.val (.bool b)) A B x y = splitT b A B .mk .mk := rfl
theorem splitVC {g : Bool} {A B : Prop} {x : Tag A} {y : Tag B} (h1 : g = true → A) (h2 : g = false → B) : splitT g A B x y := ⟨h1, h2⟩
theorem splitVC_d {p : Prop} [Decidable p] {A B : Prop} {x : Tag A} {y : Tag B} (h1 : p → A) (h2 : ¬ p → B) : splitT (decide p) A B x y := ⟨fun h => h1 (of_decide_eq_true h), fun h => h2 (of_decide_eq_false h)⟩
section
variable {J : Prop} {j : Tag J} {op : Op} {o : Tag op}
theorem callVC {d : Option Tmp} {id : Nat} {fr : List (Nat × SV)} {hp : List (Nat × Blk)} {nid : Nat} {K : St → Prop} {g : Tag K} {f : FuncId} {args pats : List SV} {res : SV} (hc : Contract P f pats res) (hs : SubL hp pats args) (hf : Fresh res) (hk : K (St.put ⟨fr, hp, nid⟩ d res)) : CallOr P O j d id fr hp nid K g f args := .inl ⟨pats, res, hc, .inl ⟨hs, hf⟩, hk⟩
theorem callVC_old {d : Option Tmp} {id : Nat} {fr : List (Nat × SV)} {hp : List (Nat × Blk)} {nid : Nat} {K : St → Prop} {g : Tag K} {f : FuncId} {args pats : List SV} {res : SV} (hc : Contract P f pats res) (hs : SubL [] pats args) (hk : K (St.put ⟨fr, hp, nid⟩ d res)) : CallOr P O j d id fr hp nid K g f args := .inl ⟨pats, res, hc, .inr hs, hk⟩
theorem callN {d : Option Tmp} {id : Nat} {fr : List (Nat × SV)} {hp : List (Nat × Blk)} {nid : Nat} {K : St → Prop} {g : Tag K} {f : FuncId} {args pats : List SV} {b : Blk} {res : SV} (hc : ContractN P f pats b res) (hs : SubL hp pats args) (hf : FreshO res) (hb : FreshB b) (hk : K (St.put ⟨fr, (id, b) :: hp, nid⟩ d (setId id res))) : CallOr P O j d id fr hp nid K g f args := .inr (.inl ⟨pats, b, res, hc, .inl ⟨hs, hf, hb⟩, hk⟩)
def inlK (P : Program) (rs : List ResultVar) (d : Option Tmp) (fr : List (Nat × SV)) (K : St → Prop) : Ex → St → Prop
 | .exit _, _ => False
 | .normal, st' => resultsVC P rs st' fun m => K (St.put ⟨fr, st'.hp, st'.nid⟩ d (oneSV m))
 | .ret, st' => resultsVC P rs st' fun m => K (St.put ⟨fr, st'.hp, st'.nid⟩ d (oneSV m))
theorem mrangeI {d : Option Tmp} {id : Nat} {fr : List (Nat × SV)} {hp : List (Nat × Blk)} {K : St → Prop} {g : Tag K} {t : TypeId} {x : Operand} {o : Tag (Op.range t x)} {mid : Nat} {fit dom : Value → Bool} {get : Value → SV} {mi : MapI} (hJ : J) (hx : env (look fr) x = .mp mid) (ht : mapInfo P t = some mi) (hb : blk hp mid = some (.map fit dom get))
  (h : ∀ (stamp : Value → Nat) (clk : Nat), (∀ k, dom k = true → stamp k < clk) → (∀ k k', dom k = true → dom k' = true → stamp k = stamp k' → k = k') →
   K (St.put ⟨fr, (id, .iter mid clk [] clk) :: setBlk hp mid (.mapS fit dom get stamp clk), id + 1⟩ d (.ptr id 0))) : OpOr P O j o d id fr hp K g := ⟨hJ, mrange_vc hx ht hb h⟩
theorem mnextI {d : Option Tmp} {id : Nat} {fr : List (Nat × SV)} {hp : List (Nat × Blk)} {K : St → Prop} {g : Tag K} {x : Operand} {o : Tag (Op.next x false)} {iid mid clk : Nat} {seen : List Nat} {fit dom : Value → Bool} {get : Value → SV} {stamp : Value → Nat} (hJ : J) (hx : env (look fr) x = .ptr iid 0) (hbi : blk hp iid = some (.iter mid clk seen clk)) (hbm : blk hp mid = some (.mapS fit dom get stamp clk))
  (h1 : ∀ k, fit k = true → dom k = true → stamp k ∉ seen → K (St.put ⟨fr, setBlk hp iid (.iter mid clk (seen ++ [stamp k]) clk), id⟩ d (.tup [.val (.bool true), .val k, get k])))
  (h2 : (∀ k, dom k = true → stamp k ∈ seen) → K (St.put ⟨fr, hp, id⟩ d (.tup [.val (.bool false)]))) : OpOr P O j o d id fr hp K g := ⟨hJ, mnext_vc hx hbi hbm h1 h2⟩
theorem mentryI {s : SV} {d : Option Tmp} {id : Nat} {fr : List (Nat × SV)} {hp : List (Nat × Blk)} {K : St → Prop} {g : Tag K} {x : Operand} {o : Tag (Op.entry x)} {iid mid clk : Nat} {seen : List Nat} {fit dom : Value → Bool} {get : Value → SV} {stamp : Value → Nat} {k : Value} (hJ : J) (hx : env (look fr) x = .ptr iid 0) (hbi : blk hp iid = some (.iter mid clk (seen ++ [stamp k]) clk)) (hbm : blk hp mid = some (.mapS fit dom get stamp clk))
  (hd : dom k = true) (hs : IsVal s k) (h : K (St.put ⟨fr, hp, id⟩ d (.tup [s, get k]))) : OpOr P O j o d id fr hp K g := ⟨hJ, mentry_vc hx hbi hbm hd hs h⟩
end
theorem inlK_normal (rs : List ResultVar) (d : Option Tmp) (fr fr' : List (Nat × SV)) (hp : List (Nat × Blk)) (nid : Nat) (K : St → Prop) : inlK P rs d fr K .normal ⟨fr', hp, nid⟩ = resultsVC P rs ⟨fr', hp, nid⟩ (fun m => K (St.put ⟨fr, hp, nid⟩ d (oneSV m))) := rfl
theorem inlK_ret (rs : List ResultVar) (d : Option Tmp) (fr fr' : List (Nat × SV)) (hp : List (Nat × Blk)) (nid : Nat) (K : St → Prop) : inlK P rs d fr K .ret ⟨fr', hp, nid⟩ = resultsVC P rs ⟨fr', hp, nid⟩ (fun m => K (St.put ⟨fr, hp, nid⟩ d (oneSV m))) := rfl
def resVT (P : Program) (rs : List ResultVar) (st : St) (K : List SV → Prop) (_ : Tag K) : Prop := resultsVC P rs st K
theorem resultsVC_T (rs : List ResultVar) (st : St) (K : List SV → Prop) : resultsVC P rs st K = resVT P rs st K .mk := rfl
theorem resVT_nil (st : St) (K : List SV → Prop) (g : Tag K) : resVT P [] st K g = K [] := rfl
theorem resVT_tmp (t : Tmp) (rs : List ResultVar) (st : St) (K : List SV → Prop) (g : Tag K) : resVT P (.tmp t :: rs) st K g = resVT P rs st (fun m => K (look st.fr t :: m)) .mk := rfl
def resLT (P : Program) (rs : List ResultVar) (st : St) (K : List SV → Prop) (_ : Tag K) (x : Res) : Prop := match x with
 | .pure obl sv => obl ∧ resVT P rs st (fun m => K (sv :: m)) .mk
 | .ex obl => ∃ sv, obl sv ∧ resVT P rs st (fun m => K (sv :: m)) .mk
 | _ => False
theorem resVT_cell (t : Tmp) (ty : TypeId) (rs : List ResultVar) (st : St) (K : List SV → Prop) (g : Tag K) : resVT P (.cell t ty :: rs) st K g = resLT P rs st K .mk (rLoad (tyOf P ty) st.hp (look st.fr t)) := rfl
theorem resLT_pure (rs : List ResultVar) (st : St) (K : List SV → Prop) (g : Tag K) (obl : Prop) (sv : SV) : resLT P rs st K g (.pure obl sv) = (obl ∧ resVT P rs st (fun m => K (sv :: m)) .mk) := rfl
theorem resLT_get (rs : List ResultVar) (st : St) (K : List SV → Prop) (g : Tag K) (r : SV) : resLT P rs st K g (.ex fun s => some r = some s) = resVT P rs st (fun m => K (r :: m)) .mk := by simp [resLT]
theorem roundMid_normal (y : Nat) (L : Loop) (B : Code) (K : Ex → St → Prop) (fr : List (Nat × SV)) (hp : List (Nat × Blk)) (nid : Nat) : roundMid P O y L B K .normal ⟨fr, hp, nid⟩ = (isReady L (blk hp y) ∧ vc P O B ⟨fr, setBlk hp y (.loop L .busy), nid⟩ K) := rfl
theorem roundEnd_normal (y : Nat) (L : Loop) (fr fr' : List (Nat × SV)) (K : St → SV → Prop) (hp : List (Nat × Blk)) (nid : Nat) : roundEnd y L fr K .normal ⟨fr', hp, nid⟩ = (isBusy L (blk hp y) ∧ K ⟨fr, setBlk hp y (.loop L .ready), nid⟩ (.val (.bool true))) := rfl
theorem roundEnd_ret (y : Nat) (L : Loop) (fr fr' : List (Nat × SV)) (K : St → SV → Prop) (hp : List (Nat × Blk)) (nid : Nat) : roundEnd y L fr K .ret ⟨fr', hp, nid⟩ = (isBusy L (blk hp y) ∧ K ⟨fr, setBlk hp y (.loop L .retd), nid⟩ (.val (.bool false))) := rfl
theorem roundEnd_exit (y : Nat) (L : Loop) (fr fr' : List (Nat × SV)) (K : St → SV → Prop) (hp : List (Nat × Blk)) (nid i : Nat) : roundEnd y L fr K (.exit i) ⟨fr', hp, nid⟩ = (isBusy L (blk hp y) ∧ K ⟨fr, setBlk hp y (.loop L (.left i)), nid⟩ (.val (.bool false))) := rfl
def rangeT (L : Loop) (fr : List (Nat × SV)) (K : Ex → St → Prop) (_ : Tag K) (hp : List (Nat × Blk)) (nid id : Nat) (o : Option Blk) : Prop := rangeFin L fr K hp nid id o
theorem rangeEnd_normal (id : Nat) (L : Loop) (fr fr' : List (Nat × SV)) (K : Ex → St → Prop) (hp : List (Nat × Blk)) (nid : Nat) : rangeEnd id L fr K .normal ⟨fr', hp, nid⟩ = rangeT L fr K .mk hp nid id (blk hp id) := rfl
theorem rangeEnd_ret (id : Nat) (L : Loop) (fr fr' : List (Nat × SV)) (K : Ex → St → Prop) (hp : List (Nat × Blk)) (nid : Nat) : rangeEnd id L fr K .ret ⟨fr', hp, nid⟩ = rangeT L fr K .mk hp nid id (blk hp id) := rfl
theorem rangeT_ready (L L' : Loop) (fr : List (Nat × SV)) (K : Ex → St → Prop) (g : Tag K) (hp : List (Nat × Blk)) (nid id : Nat) : rangeT L fr K g hp nid id (some (.loop L' .ready)) = (L' = L ∧ K .normal ⟨fr, dropBlk hp id, nid⟩) := rfl
theorem rangeT_retd (L L' : Loop) (fr : List (Nat × SV)) (K : Ex → St → Prop) (g : Tag K) (hp : List (Nat × Blk)) (nid id : Nat) : rangeT L fr K g hp nid id (some (.loop L' .retd)) = (L' = L ∧ K .ret ⟨fr, dropBlk hp id, nid⟩) := rfl
theorem rangeT_left (L L' : Loop) (fr : List (Nat × SV)) (K : Ex → St → Prop) (g : Tag K) (hp : List (Nat × Blk)) (nid id i : Nat) : rangeT L fr K g hp nid id (some (.loop L' (.left i))) = (L' = L ∧ K (.exit i) ⟨fr, dropBlk hp id, nid⟩) := rfl
theorem isReady_ready (L L' : Loop) : isReady L (some (.loop L' .ready)) = (L' = L) := rfl
theorem isBusy_busy (L L' : Loop) : isBusy L (some (.loop L' .busy)) = (L' = L) := rfl
end
end Go.Sx
end
section
set_option linter.unusedVariables false
set_option linter.unusedSimpArgs false
namespace Go.Sx
open Go.RowKit
section
variable (hp : List (Nat × Blk)) (m : Nat → Option Nat) (nn : Nat) (sl : Nat → Bool)
mutual
def Wk : SV → SV → Prop
 | .top, _ => True
 | .val v, s => s = .val v
 | .agg l, s => match s with | .agg k => WkL l k | _ => False
 | .tup l, s => match s with | .tup k => WkL l k | _ => False
 | .fn f a b, s => match s with | .fn f' a' b' => f = f' ∧ WkL a a' ∧ WkL b b' | _ => False
 | .ptr id off, s => match s with | .ptr id2 off2 => id < nn ∧ m id = some id2 ∧ off = off2 | _ => False
 | .elt id k i j, s => match s with | .elt id2 k2 i2 j2 => id < nn ∧ m id = some id2 ∧ k = k2 ∧ i = i2 ∧ j = j2 | _ => False
 | .ref o n row, s => match s with
  | .ref o' n' row' => (o = true → o' = true) ∧ n ≤ n' ∧ ∀ j, j < n → Wk (row j) (row' j)
  | .ptr id off => sl id = true ∧ match blk hp id with
   | some (.cells _ l) => ∀ j, j < n → Wk (row j) (l.getD (off + j) .top) ∧ off + j < l.length
   | _ => False
  | _ => False
 | .arr o full n k row, s => match s with
  | .arr o' full' n' k' row' => (o = true → o' = true) ∧ (full = true → full' = true) ∧ n = n' ∧ k = k' ∧ ∀ i j, i < n → j < k → Wk (row i j) (row' i j)
  | .vec id n' k' => sl id = true ∧ full = false ∧ n = n' ∧ k = k' ∧ match blk hp id with
   | some (.rows _ k'' mm row') => n ≤ mm ∧ k = k'' ∧ ∀ i j, i < n → j < k → Wk (row i j) (row' i j)
   | _ => False
  | .val u => nilSlice u = true ∧ n = 0
  | _ => False
 | .vec id n k, s => match s with
  | .vec id2 n2 k2 => id < nn ∧ m id = some id2 ∧ n = n2 ∧ k = k2
  | .val u => nilSlice u = true ∧ id < nn ∧ m id = none ∧ n = 0
  | _ => False
 | .mp id, s => match s with | .mp id2 => id < nn ∧ m id = some id2 | _ => False
 | .asl id off n k, s => match s with | .asl id2 off2 n2 k2 => id < nn ∧ m id = some id2 ∧ off = off2 ∧ n = n2 ∧ k = k2 | _ => False
 | .que id off n k, s => match s with
  | .que id2 off2 n2 k2 => id < nn ∧ m id = some id2 ∧ off = off2 ∧ n = n2 ∧ k = k2
  | .vec id2 n2 k2 => id < nn ∧ m id = some id2 ∧ off = 0 ∧ n = n2 ∧ k = k2
  | _ => False
 | .cut id n k, s => match s with | .cut id2 n2 k2 => id < nn ∧ m id = some id2 ∧ n = n2 ∧ k = k2 | _ => False
 | .cmp o fit dom get, s => match s with
  | .cmp o' fit' dom' get' => (o = true → o' = true) ∧ fit = fit' ∧ dom = dom' ∧ ∀ key, dom key = true → Wk (get key) (get' key)
  | .mp id => sl id = true ∧ match blk hp id with
   | some (.map fit' dom' get') => fit = fit' ∧ dom = dom' ∧ ∀ key, dom key = true → Wk (get key) (get' key)
   | some (.mapS fit' dom' get' _ _) => fit = fit' ∧ dom = dom' ∧ ∀ key, dom key = true → Wk (get key) (get' key)
   | _ => False
  | _ => False
 | .yld id, s => match s with | .yld id2 => id < nn ∧ m id = some id2 | _ => False
def WkL : List SV → List SV → Prop
 | [], k => k = []
 | a :: l, k => match k with | b :: k => Wk a b ∧ WkL l k | [] => False
end
def WkB : Blk → Blk → Prop
 | .cells t l, .cells t2 l2 => t = t2 ∧ WkL hp m nn sl l l2
 | .rows t k n row, .rows t2 k2 n2 row2 => t = t2 ∧ k = k2 ∧ n ≤ n2 ∧ ∀ i j, i < n → j < k → Wk hp m nn sl (row i j) (row2 i j)
 | .map fit dom get, .map fit2 dom2 get2 => fit = fit2 ∧ dom = dom2 ∧ ∀ key, dom key = true → Wk hp m nn sl (get key) (get2 key)
 | .map fit dom get, .mapS fit2 dom2 get2 _ _ => fit = fit2 ∧ dom = dom2 ∧ ∀ key, dom key = true → Wk hp m nn sl (get key) (get2 key)
 | .mapS fit dom get st c, .mapS fit2 dom2 get2 st2 c2 => fit = fit2 ∧ dom = dom2 ∧ st = st2 ∧ c = c2 ∧ ∀ key, dom key = true → Wk hp m nn sl (get key) (get2 key)
 | .iter a s l c, .iter a2 s2 l2 c2 => a < nn ∧ m a = some a2 ∧ s = s2 ∧ l = l2 ∧ c = c2
 | .loop L s, .loop L2 s2 => L = L2 ∧ s = s2
 | _, _ => False
def WkF (fr : List (Nat × SV)) : List (Nat × SV) → Prop
 | [] => True
 | (i, s) :: l => Wk hp m nn sl s (look fr i) ∧ WkF fr l
def WkH : List (Nat × Blk) → Prop
 | [] => True
 | (id, b) :: l => id < nn ∧ (match m id with
   | some id2 => sl id2 = false ∧ (match blk hp id2 with | some b2 => WkB hp m nn sl b b2 | none => False)
   | none => (match b with | .rows _ _ n _ => n = 0 | _ => False)) ∧ WkH l
end
def injOn (m : Nat → Option Nat) : List (Nat × Blk) → Bool
 | [] => true
 | (id, _) :: l => (match m id with | none => true | some x => l.all fun p => decide (m p.1 ≠ some x)) && injOn m l
theorem wkL_get {hp : List (Nat × Blk)} {m : Nat → Option Nat} {nn : Nat} {sl : Nat → Bool} : ∀ {l k : List SV}, WkL hp m nn sl l k → l.length = k.length ∧ ∀ (i : Nat) (a : SV), l[i]? = some a → ∃ b, k[i]? = some b ∧ Wk hp m nn sl a b
 | [], k, h => by simp only [WkL] at h; subst h; exact ⟨rfl, fun i a h => by simp at h⟩
 | a :: l, [], h => by simp [WkL] at h
 | a :: l, b :: k, h => by
  simp only [WkL] at h
  obtain ⟨h1, h2⟩ := wkL_get h.2
  refine ⟨by simp [h1], fun i x hx => ?_⟩
  cases i with
  | zero => simp at hx; subst hx; exact ⟨b, by simp, h.1⟩
  | succ i => exact h2 i x (by simpa using hx)
section
variable {hp : List (Nat × Blk)} {m : Nat → Option Nat} {nn : Nat} {sl : Nat → Bool} {r : Nat → Option Nat} {N : Nat → Prop} {G G' : Bool → Nat → Prop} {w : World}
mutual
theorem wk_rep (hG : ∀ o o' b, (o = true → o' = true) → G o' b → G' o b) (hB : ∀ id x, blk hp id = some x → N id → BlkRep r N G w (r id) x) (hs : ∀ id x b o, sl id = true → blk hp id = some x → N id → r id = some b → G' o b) :
  ∀ (p s : SV) (v : Value), Wk hp m nn sl p s → Rep r N G w s v → Rep (fun id => (m id).bind r) (· < nn) G' w p v
 | .top, s, v, _, _ => .top v
 | .val u, s, v, h, hv => by
  simp only [Wk] at h; subst h
  cases hv; exact .val u
 | .agg l, s, v, h, hv => by
  cases s <;> simp only [Wk] at h
  cases hv with
  | agg k cs hl hr => exact .agg _ _ ((wkL_get h).1.trans hl) fun i a ha => wk_repL hG hB hs l _ h i a ha _ (fun b hb => hr i b hb)
 | .tup l, s, v, h, hv => by
  cases s <;> simp only [Wk] at h
  cases hv with
  | tup k cs hl hr => exact .tup _ _ ((wkL_get h).1.trans hl) fun i a ha => wk_repL hG hB hs l _ h i a ha _ (fun b hb => hr i b hb)
 | .fn f a b, s, v, h, hv => by
  cases s <;> simp only [Wk] at h
  obtain ⟨rfl, h1, h2⟩ := h
  cases hv with
  | fn _ l k cs ds hl hk hr hr' =>
   exact .fn _ _ _ _ _ ((wkL_get h1).1.trans hl) ((wkL_get h2).1.trans hk) (fun i x hx => wk_repL hG hB hs a _ h1 i x hx _ (fun b hb => hr i b hb)) (fun i x hx => wk_repL hG hB hs b _ h2 i x hx _ (fun b hb => hr' i b hb))
 | .ptr id off, s, v, h, hv => by
  cases s <;> simp only [Wk] at h
  obtain ⟨h1, h2, rfl⟩ := h
  cases hv with
  | ptr _ _ b hN hr => exact .ptr _ _ _ h1 (by rw [h2]; exact hr)
 | .elt id k i j, s, v, h, hv => by
  cases s <;> simp only [Wk] at h
  obtain ⟨h1, h2, rfl, rfl, rfl⟩ := h
  cases hv with
  | elt _ _ _ _ b hN hr => exact .elt _ _ _ _ _ h1 (by rw [h2]; exact hr)
 | .ref o n row, s, v, h, hv => by
  cases s <;> simp only [Wk] at h
  case ref o' n' row' =>
   obtain ⟨ho, hn, hrow⟩ := h
   cases hv with
   | ref _ _ _ b off f hg hc hr => exact .ref _ _ _ _ _ f (hG _ _ _ ho hg) (fun j hj => hc j (by omega)) fun j hj => wk_rep hG hB hs (row j) _ _ (hrow j hj) (hr j (by omega))
  case ptr id off =>
   obtain ⟨hsl, h⟩ := h
   split at h
   ·rename_i t l hb
    cases hv with
    | ptr _ _ b hN hr =>
     have h1 := hB _ _ hb hN
     rw [hr] at h1
     cases h1 with
     | cells _ _ _ cs hb' hl hrep =>
      refine .ref _ _ _ _ _ (fun j => cs.getD (off + j) undef) (hs _ _ _ _ hsl hb hN hr) (fun j hj => cell_at hb' _ (by have := (h j hj).2; omega)) fun j hj => ?_
      obtain ⟨h3, h4⟩ := h j hj
      refine wk_rep hG hB hs (row j) _ _ h3 (hrep _ _ ?_)
      simp [h4]
   ·exact h.elim
 | .arr o full n k row, s, v, h, hv => by
  cases s <;> simp only [Wk] at h
  case arr o' full' n' k' row' =>
   obtain ⟨ho, hf, rfl, rfl, hrow⟩ := h
   cases hv with
   | arrNil _ _ _ _ a cap hfc => exact .arrNil _ _ _ _ _ _ fun e => hfc (hf e)
   | arr _ _ _ _ _ b off cap f hg hfc hcap hc hr =>
    exact .arr _ _ _ _ _ _ _ _ f (hG _ _ _ ho hg) (fun e => hfc (hf e)) hcap hc fun i j hi hj => wk_rep hG hB hs (row i j) _ _ (hrow i j hi hj) (hr i j hi hj)
  case vec id n' k' =>
   obtain ⟨hsl, rfl, rfl, rfl, h⟩ := h
   split at h
   ·rename_i t k'' mm row' hb
    obtain ⟨hnm, rfl, hrow⟩ := h
    cases hv with
    | vecNil _ _ hN hr => exact .arrNil _ _ _ _ _ _ (by simp)
    | vec _ _ _ b cap cs t' hN hr hb' hcs hcap hmx =>
     have h1 := hB _ _ hb hN
     rw [hr] at h1
     cases h1 with
     | rows _ _ _ _ _ cs' hb'' hl hrep =>
      refine .arr _ _ _ _ _ _ _ _ (fun i j => cs'.getD (i * k + j) undef) (hs _ _ _ _ hsl hb hN hr) (by simp) hcap (fun i j hi hj => ?_) fun i j hi hj => wk_rep hG hB hs (row i j) _ _ (hrow i j hi hj) (hrep i j (by omega) hj)
      have hik : i * k + k ≤ mm * k := by rw [← Nat.succ_mul]; exact Nat.mul_le_mul_right _ (by omega)
      rw [Nat.zero_add]
      exact cell_at hb'' _ (by omega)
   ·exact h.elim
  case val u =>
   obtain ⟨h1, rfl⟩ := h
   obtain rfl := nilSlice_eq h1
   cases hv
   exact .arrNil _ _ _ _ _ _ (fun _ => rfl)
 | .vec id n k, s, v, h, hv => by
  cases s <;> simp only [Wk] at h
  case vec id2 n2 k2 =>
   obtain ⟨h1, h2, rfl, rfl⟩ := h
   cases hv with
   | vecNil _ _ hN hr => exact .vecNil _ _ h1 (by rw [h2]; exact hr)
   | vec _ _ _ b cap cs t hN hr hb hcs hcap hmx => exact .vec _ _ _ b cap cs t h1 (by rw [h2]; exact hr) hb hcs hcap hmx
  case val u =>
   obtain ⟨h1, h2, h3, rfl⟩ := h
   obtain rfl := nilSlice_eq h1
   cases hv
   exact .vecNil _ _ h2 (by rw [h3]; rfl)
 | .mp id, s, v, h, hv => by
  cases s <;> simp only [Wk] at h
  cases hv with
  | mp _ b hN hr => exact .mp _ _ h.1 (by rw [h.2]; exact hr)
 | .asl id off n k, s, v, h, hv => by
  cases s <;> simp only [Wk] at h
  obtain ⟨h1, h2, rfl, rfl, rfl⟩ := h
  cases hv with
  | asl _ _ _ _ b cap hN hr hcap => exact .asl _ _ _ _ _ _ h1 (by rw [h2]; exact hr) hcap
 | .que id off n k, s, v, h, hv => by
  cases s <;> simp only [Wk] at h
  case que id2 off2 n2 k2 =>
   obtain ⟨h1, h2, rfl, rfl, rfl⟩ := h
   cases hv with
   | queNil _ _ _ a hN => exact .queNil _ _ _ _ h1
   | que _ _ _ _ b cap cs t hN hr hb hcs hcap hmx => exact .que _ _ _ _ b cap cs t h1 (by rw [h2]; exact hr) hb hcs hcap hmx
  case vec id2 n2 k2 =>
   obtain ⟨h1, h2, rfl, rfl, rfl⟩ := h
   cases hv with
   | vecNil _ _ hN hr => exact .queNil _ _ _ _ h1
   | vec _ _ _ b cap cs t hN hr hb hcs hcap hmx =>
    rw [show (⟨b, 0, none⟩ : Addr) = ⟨b, 0 * k, none⟩ by rw [Nat.zero_mul]]
    exact .que _ _ _ _ b cap cs t h1 (by rw [h2]; exact hr) hb (by rw [Nat.zero_add]; exact hcs) hcap (by rw [Nat.zero_add]; exact hmx)
 | .cut id n k, s, v, h, hv => by
  cases s <;> simp only [Wk] at h
  obtain ⟨h1, h2, rfl, rfl⟩ := h
  cases hv with
  | cutNil _ _ hN hr => exact .cutNil _ _ h1 (by rw [h2]; exact hr)
  | cut _ _ _ b hN hr => exact .cut _ _ _ b h1 (by rw [h2]; exact hr)
 | .yld id, s, v, h, hv => by
  cases s <;> simp only [Wk] at h
  obtain ⟨h1, h2⟩ := h
  cases hv with
  | yld _ b hN hr => exact .yld _ _ h1 (by rw [h2]; exact hr)
 | .cmp o fit dom get, s, v, h, hv => by
  cases s <;> simp only [Wk] at h
  case cmp o' fit' dom' get' =>
   obtain ⟨ho, rfl, rfl, hrow⟩ := h
   cases hv with
   | cmp _ _ _ _ b es clock hg hb hm hr => exact .cmp _ _ _ _ b es clock (hG _ _ _ ho hg) hb hm fun e he => wk_rep hG hB hs (get e.key) _ _ (hrow _ (hm.doms e he)) (hr e he)
  case mp id =>
   obtain ⟨hsl, h⟩ := h
   split at h
   ·rename_i fit' dom' get' hb
    obtain ⟨rfl, rfl, hrow⟩ := h
    cases hv with
    | mp _ b hN hr =>
     have h1 := hB _ _ hb hN
     rw [hr] at h1
     cases h1 with
     | map _ _ _ _ es clock hb' hm ht hrep => exact .cmp _ _ _ _ b es clock (hs _ _ _ _ hsl hb hN hr) hb' hm fun e he => wk_rep hG hB hs (get e.key) _ _ (hrow _ (hm.doms e he)) (hrep e he)
   ·rename_i fit' dom' get' st' c' hb
    obtain ⟨rfl, rfl, hrow⟩ := h
    cases hv with
    | mp _ b hN hr =>
     have h1 := hB _ _ hb hN
     rw [hr] at h1
     cases h1 with
     | mapS _ _ _ _ _ es _ hb' hm ht hst hrep => exact .cmp _ _ _ _ b es _ (hs _ _ _ _ hsl hb hN hr) hb' hm fun e he => wk_rep hG hB hs (get e.key) _ _ (hrow _ (hm.doms e he)) (hrep e he)
   ·exact h.elim
theorem wk_repL (hG : ∀ o o' b, (o = true → o' = true) → G o' b → G' o b) (hB : ∀ id x, blk hp id = some x → N id → BlkRep r N G w (r id) x) (hs : ∀ id x b o, sl id = true → blk hp id = some x → N id → r id = some b → G' o b) :
  ∀ (l k : List SV), WkL hp m nn sl l k → ∀ (i : Nat) (a : SV), l[i]? = some a → ∀ (v : Value), (∀ b, k[i]? = some b → Rep r N G w b v) → Rep (fun id => (m id).bind r) (· < nn) G' w a v
 | [], k, h, i, a, ha, v, hv => by simp at ha
 | p :: l, k, h, i, a, ha, v, hv => by
  cases k with
  | nil => simp [WkL] at h
  | cons b k =>
   simp only [WkL] at h
   cases i with
   | zero =>
    simp at ha; subst ha
    exact wk_rep hG hB hs p b v h.1 (hv b (by simp))
   | succ i => exact wk_repL hG hB hs l k h.2 i a (by simpa using ha) v (fun c hc => hv c (by simpa using hc))
end
theorem wkF_get {fr : List (Nat × SV)} : ∀ {l : List (Nat × SV)}, WkF hp m nn sl fr l → ∀ i, Wk hp m nn sl (look l i) (look fr i)
 | [], _, i => by simp [look, Wk]
 | (j, s) :: l, h, i => by
  simp only [WkF] at h
  simp only [look]
  split
  ·rename_i e; subst e; exact h.1
  ·exact wkF_get h.2 i
theorem wkH_get : ∀ {l : List (Nat × Blk)}, WkH hp m nn sl l → ∀ id x, blk l id = some x → id < nn ∧ (match m id with
   | some id2 => sl id2 = false ∧ (match blk hp id2 with | some b2 => WkB hp m nn sl x b2 | none => False)
   | none => (match x with | .rows _ _ n _ => n = 0 | _ => False))
 | [], _, id, x, hx => by simp [blk] at hx
 | (j, b) :: l, h, id, x, hx => by
  simp only [WkH] at h
  simp only [blk] at hx
  split at hx
  ·rename_i e; subst e; cases hx; exact ⟨h.1, h.2.1⟩
  ·exact wkH_get h.2.2 id x hx
theorem injOn_get : ∀ {l : List (Nat × Blk)}, injOn m l = true → ∀ id x id' x' y, blk l id = some x → blk l id' = some x' → m id = some y → m id' = some y → id = id'
 | [], _, id, x, id', x', y, hx, _, _, _ => by simp [blk] at hx
 | (j, b) :: l, h, id, x, id', x', y, hx, hx', hy, hy' => by
  simp only [injOn, Bool.and_eq_true] at h
  have mem : ∀ {l : List (Nat × Blk)} {i : Nat} {z : Blk}, blk l i = some z → ∃ p ∈ l, p.1 = i := by
   intro l
   induction l with
   | nil => intro i z hz; simp [blk] at hz
   | cons q l ih =>
    obtain ⟨q1, q2⟩ := q
    intro i z hz
    simp only [blk] at hz
    split at hz
    ·rename_i e; exact ⟨_, List.mem_cons_self, e.symm⟩
    ·obtain ⟨p, hp, he⟩ := ih hz
     exact ⟨p, List.mem_cons_of_mem _ hp, he⟩
  simp only [blk] at hx hx'
  by_cases e : id = j
  ·by_cases e' : id' = j
   ·rw [e, e']
   ·subst e
    rw [if_neg e'] at hx'
    have h1 := h.1
    rw [hy] at h1
    obtain ⟨p, hp, he⟩ := mem hx'
    have := List.all_eq_true.1 h1 p hp
    rw [he, hy'] at this
    simp at this
  ·rw [if_neg e] at hx
   by_cases e' : id' = j
   ·subst e'
    have h1 := h.1
    rw [hy'] at h1
    obtain ⟨p, hp, he⟩ := mem hx
    have := List.all_eq_true.1 h1 p hp
    rw [he, hy] at this
    simp at this
   ·rw [if_neg e'] at hx'
    exact injOn_get h.2 id x id' x' y hx hx' hy hy'
end
theorem sealed_id {hp : List (Nat × Blk)} {m : Nat → Option Nat} {nn : Nat} {sl : Nat → Bool} {l : List (Nat × Blk)} (h : WkH hp m nn sl l) {id : Nat} {x : Blk} (hx : blk l id = some x) {id2 : Nat} (hm : m id = some id2) : sl id2 = false ∧ ∃ b2, blk hp id2 = some b2 ∧ WkB hp m nn sl x b2 := by
 have := (wkH_get h id x hx).2
 rw [hm] at this
 simp only [] at this
 refine ⟨this.1, ?_⟩
 cases hb : blk hp id2 with
 | none => rw [hb] at this; exact this.2.elim
 | some b2 => rw [hb] at this; exact ⟨b2, rfl, this.2⟩
theorem weak_of {O : Ctx} {st st' : St} (m : Nat → Option Nat) (sl : Nat → Bool) (hf : WkF st.hp m st'.nid sl st.fr st'.fr) (hh : WkH st.hp m st'.nid sl st'.hp) (hi : injOn m st'.hp = true) (hlo : O.lo ≤ st'.nid) (hmo : ∀ id, id < O.lo → m id = some id) : Weak O st st' := by
 rintro base okc ns outs a w ⟨r, h⟩
 have hG : ∀ o o' b, (o = true → o' = true) → Gd base okc r (· < st.nid) st.hp w o' b → Gd base okc (fun id => (m id).bind r) (· < st'.nid) st'.hp w o b := fun o o' b ho hg => by
  refine ⟨hg.1, fun id x hx hN e => ?_, ?_⟩
  ·cases hm : m id with
   | none => dsimp only at e; rw [hm] at e; simp at e
   | some id2 =>
    dsimp only at e; rw [hm] at e
    obtain ⟨_, b2, hb2, _⟩ := sealed_id hh hx hm
    exact hg.2.1 id2 b2 hb2 (h.keys id2 b2 hb2) e
  ·have := hg.2.2
   cases o <;> cases o' <;> simp_all
 have hsl : ∀ id x b o, sl id = true → blk st.hp id = some x → id < st.nid → r id = some b → Gd base okc (fun id => (m id).bind r) (· < st'.nid) st'.hp w o b := fun id x b o hs hx hN hr => by
  refine ⟨h.sat.lt hx hN hr, fun id' x' hx' hN' e => ?_, ?_⟩
  ·cases hm : m id' with
   | none => dsimp only at e; rw [hm] at e; simp at e
   | some id2 =>
    dsimp only at e; rw [hm] at e
    obtain ⟨hs2, b2, hb2, _⟩ := sealed_id hh hx' hm
    have := h.sat.inj _ _ _ _ _ hx hN hb2 (h.keys id2 b2 hb2) hr e
    subst this
    rw [hs] at hs2; cases hs2
  ·have := h.sat.own id x b hx hN hr
   cases o <;> simp [this]
 have key := fun p s v => wk_rep (m := m) (nn := st'.nid) hG (fun id x hx hN => h.sat.rep id x hx hN) hsl p s v
 refine ⟨fun id => (m id).bind r, ⟨h.sat.below, fun id x hx hN => ?_, fun id x b hx hN e => ?_, fun id x id' x' b hx hN hx' hN' e e' => ?_⟩, fun id x hx => (wkH_get hh id x hx).1, fun i => key _ _ _ (wkF_get hf i) (h.fr i), h.size, hlo, h.out.mono (Nat.le_refl _) (fun n hn sv v hv => hv.mono (fun id hid => by simp only [hmo id (Nat.lt_of_lt_of_le hid hn), Option.bind_some]) (fun _ h => h) (fun o b hb => ⟨hG o o b (fun h => h) hb, rfl⟩) (Shapes.refl w)), fun id hid => by simp only [hmo id hid, Option.bind_some]; exact h.rfix id hid, ?_⟩
 ·have hx2 := (wkH_get hh id x hx).2
  cases hm : m id with
  | none =>
   rw [hm] at hx2
   simp only [Option.bind_none]
   cases x with
   | rows t k n row =>
    simp only [] at hx2
    subst hx2
    exact .none t k row
   | _ => exact hx2.elim
  | some id2 =>
   simp only [Option.bind_some]
   obtain ⟨_, b2, hb2, hw⟩ := sealed_id hh hx hm
   have hrep := h.sat.rep id2 b2 hb2 (h.keys id2 b2 hb2)
   cases hrb : r id2 with
   | none =>
    rw [hrb] at hrep
    cases hrep with
    | none t k row =>
     cases x <;> simp only [WkB] at hw
     obtain ⟨rfl, rfl, hn, _⟩ := hw
     have hn0 := Nat.le_zero.1 hn
     subst hn0
     exact .none _ _ _
   | some b =>
    rw [hrb] at hrep
    cases hrep with
    | cells t l _ cs hb hl hrep =>
     cases x <;> simp only [WkB] at hw
     obtain ⟨rfl, hw⟩ := hw
     refine .cells _ _ _ cs hb ((wkL_get hw).1.trans hl) fun i sv hi => ?_
     obtain ⟨b', hb', hwk⟩ := (wkL_get hw).2 i sv hi
     exact key _ _ _ hwk (hrep i b' hb')
    | rows t k n row _ cs hb hl hrep =>
     cases x <;> simp only [WkB] at hw
     obtain ⟨rfl, rfl, hn, hw⟩ := hw
     refine .rows _ _ _ _ _ cs hb (Nat.le_trans (Nat.mul_le_mul_right _ hn) hl) fun i j hi hj => key _ _ _ (hw i j hi hj) (hrep i j (by omega) hj)
    | mapS fit dom get st c es _ hb hm' ht hst hrep =>
     cases x <;> simp only [WkB] at hw
     ·obtain ⟨rfl, rfl, hw⟩ := hw
      exact .map _ _ _ _ es _ hb hm' ht fun e he => key _ _ _ (hw _ (hm'.doms e he)) (hrep e he)
     ·obtain ⟨rfl, rfl, rfl, rfl, hw⟩ := hw
      exact .mapS _ _ _ _ _ es _ hb hm' ht hst fun e he => key _ _ _ (hw _ (hm'.doms e he)) (hrep e he)
    | iter mid since seen last _ bm hN2 hr2 hb =>
     cases x <;> simp only [WkB] at hw
     obtain ⟨w1, w2, rfl, rfl, rfl⟩ := hw
     exact .iter _ _ _ _ _ bm w1 (by rw [w2]; exact hr2) hb
    | loop L s _ hb =>
     cases x <;> simp only [WkB] at hw
     obtain ⟨rfl, rfl⟩ := hw
     exact .loop _ _ _ hb
    | map fit dom get _ es clock hb hm' ht hrep =>
     cases x <;> simp only [WkB] at hw
     obtain ⟨rfl, rfl, hw⟩ := hw
     exact .map _ _ _ _ es clock hb hm' ht fun e he => key _ _ _ (hw _ (hm'.doms e he)) (hrep e he)
 ·cases hm : m id with
  | none => rw [hm] at e; simp at e
  | some id2 =>
   rw [hm] at e
   obtain ⟨_, b2, hb2, _⟩ := sealed_id hh hx hm
   exact h.sat.own id2 b2 b hb2 (h.keys id2 b2 hb2) e
 ·cases hm : m id with
  | none => rw [hm] at e; simp at e
  | some y =>
   cases hm' : m id' with
   | none => rw [hm'] at e'; simp at e'
   | some y' =>
    rw [hm] at e; rw [hm'] at e'
    obtain ⟨_, b2, hb2, _⟩ := sealed_id hh hx hm
    obtain ⟨_, b2', hb2', _⟩ := sealed_id hh hx' hm'
    have := h.sat.inj _ _ _ _ _ hb2 (h.keys y b2 hb2) hb2' (h.keys y' b2' hb2') e e'
    subst this
    exact injOn_get hi _ _ _ _ _ hx hx' hm hm'
 ·obtain ⟨Ds, h1, h2, h3⟩ := h.defers
  exact ⟨Ds, h1, h2, fun D hD => ⟨hG true true D (fun h => h) (h3 D hD).1, (h3 D hD).2⟩⟩
theorem Weak.refl (O : Ctx) (st : St) : Weak O st st := fun _ _ _ _ _ _ h => h
theorem Weak.trans {O : Ctx} {a b c : St} (h : Weak O a b) (k : Weak O b c) : Weak O a c := fun base okc ns outs x w hi => k _ _ _ _ _ _ (h _ _ _ _ _ _ hi)
def ren : List (Nat × Option Nat) → Nat → Option Nat
 | [], i => some i
 | (j, x) :: l, i => if i = j then x else ren l i
def isIn : List Nat → Nat → Bool
 | [], _ => false
 | j :: l, i => if i = j then true else isIn l i
def renOk (lo nid : Nat) : List (Nat × Option Nat) → Bool
 | [] => decide (lo ≤ nid)
 | (j, _) :: l => decide (lo ≤ j) && renOk lo nid l
theorem renOk_spec {lo nid : Nat} : ∀ {l : List (Nat × Option Nat)}, renOk lo nid l = true → lo ≤ nid ∧ ∀ id, id < lo → ren l id = some id
 | [], h => ⟨by simpa [renOk] using h, fun id _ => rfl⟩
 | (j, x) :: l, h => by
  simp only [renOk, Bool.and_eq_true, decide_eq_true_eq] at h
  obtain ⟨h1, h2⟩ := renOk_spec h.2
  refine ⟨h1, fun id hid => ?_⟩
  simp only [ren]
  rw [if_neg (by omega)]
  exact h2 id hid
theorem weak {O : Ctx} {fr fr' : List (Nat × SV)} {hp hp' : List (Nat × Blk)} {nid nid' : Nat} (rn : List (Nat × Option Nat)) (sl : List Nat) (hf : WkF hp (ren rn) nid' (isIn sl) fr fr') (hh : WkH hp (ren rn) nid' (isIn sl) hp') (hi : injOn (ren rn) hp' = true) (hO : renOk O.lo nid' rn = true := by decide) :
  Weak O ⟨fr, hp, nid⟩ ⟨fr', hp', nid'⟩ := weak_of (ren rn) (isIn sl) hf hh hi (renOk_spec hO).1 (renOk_spec hO).2
section
variable {P : Program} {O : Ctx} {J : Prop}
theorem loopVC {body : St → (Ex → St → Prop) → Prop} {st : St} {K : Ex → St → Prop} {α : Type} (Pr : α → Prop) (inv : α → St) (μ : α → Nat) (x0 : α) (hp0 : Pr x0) (h0 : Weak O st (inv x0))
  (h : ∀ x, Pr x → body (inv x) (thenK K fun st' => ∃ y, Pr y ∧ μ y < μ x ∧ Weak O st' (inv y))) (hmono : ∀ st K K', body st K → (∀ e st', K e st' → K' e st') → body st K') : LoopVC O body st K :=
 ⟨{ x : α // Pr x }, fun x => inv x.1, fun x => μ x.1, ⟨x0, hp0⟩, h0, fun x => hmono _ _ _ (h x.1 x.2) fun e st' hk => by
  cases e with
  | normal => obtain ⟨y, hy, hlt, hw⟩ := hk; exact ⟨⟨y, hy⟩, hlt, hw⟩
  | exit i => exact hk
  | ret => exact hk⟩
theorem inline_mono {f : FuncId} {args : List SV} {st : St} {K K' : St → SV → Prop} (h : InlineVC P O f args st K) (hk : ∀ st' sv, K st' sv → K' st' sv) : InlineVC P O f args st K' := fun base okc ns r outs a w vs h1 h2 h3 => by
 obtain ⟨e1, e2⟩ := h base okc ns r outs a w vs h1 h2 h3
 exact ⟨e1, e2.mono fun e w' ⟨v, st', r', res, g1, g2, g3⟩ => ⟨v, st', r', res, g1, hk _ _ g2, g3⟩⟩
theorem yieldVC_mono {y : Nat} {args : List SV} {st : St} {K K' : St → SV → Prop} (h : YieldVC P O y args st K) (hk : ∀ st' sv, K st' sv → K' st' sv) : YieldVC P O y args st K' := fun base okc ns r outs a w vs l h1 h2 h3 h4 h5 => by
 obtain ⟨fn, tmps, A, B, e1, e2⟩ := h base okc ns r outs a w vs l h1 h2 h3 h4 h5
 exact ⟨fn, tmps, A, B, e1, RoundIn.mono e2 fun e w' ⟨v, st', r', res, g1, g2, g3⟩ => ⟨v, st', r', res, g1, hk _ _ g2, g3⟩⟩
theorem op_mono {op : Op} {st : St} {K K' : St → SV → Prop} (h : OpVC P O op st K) (hk : ∀ st' sv, K st' sv → K' st' sv) : OpVC P O op st K' := fun base okc ns r outs a w o h1 h2 => by
 obtain ⟨v, w', e1, st', r', res, g2, g3⟩ := h base okc ns r outs a w o h1 h2
 exact ⟨v, w', e1, st', r', res, hk _ _ g2, g3⟩
theorem res_mono {op : Op} {d : Option Tmp} {id : Nat} {st : St} {K K' : St → Prop} {x : Res} (h : resVC P O J op d id st K x) (hk : ∀ st', K st' → K' st') : resVC P O J op d id st K' x := by
 cases x with
 | bad => exact h
 | pure obl r => exact ⟨h.1, hk _ h.2⟩
 | ex obl => obtain ⟨r, h1, h2⟩ := h; exact ⟨r, h1, hk _ h2⟩
 | new obl b mk => exact ⟨h.1, hk _ h.2⟩
 | upd obl j b => exact ⟨h.1, hk _ h.2⟩
 | updv obl j b sv => exact ⟨h.1, hk _ h.2⟩
 | grow obl j b mk => exact ⟨h.1, hk _ h.2⟩
 | call f args =>
  rcases h with ⟨pats, res, h1, h2, h3⟩ | ⟨pats, b, res, h1, h2, h3⟩ | ⟨hJ, h⟩
  ·exact .inl ⟨pats, res, h1, h2, hk _ h3⟩
  ·exact .inr (.inl ⟨pats, b, res, h1, h2, hk _ h3⟩)
  ·exact .inr (.inr ⟨hJ, inline_mono h fun _ _ => hk _⟩)
 | yield y args => exact ⟨h.1, yieldVC_mono h.2 fun _ _ => hk _⟩
 | raw => exact ⟨h.1, op_mono h.2 fun _ _ => hk _⟩
theorem guard_mono {ds : List (Option Tmp)} {g : Option (Nat × Bool)} {st : St} {run run' skip skip' : St → Prop} (h : guardVC ds g st run skip) (h1 : ∀ st, run st → run' st) (h2 : ∀ st, skip st → skip' st) : guardVC ds g st run' skip' := by
 unfold guardVC at *
 split at h
 ·exact h1 _ h
 ·split at h
  ·exact h.elim
  ·rename_i hn
   split at h
   ·split at h
    ·exact ⟨fun e => h1 _ (h.1 e), fun e => h2 _ (h.2 e)⟩
    ·exact ⟨fun e => h2 _ (h.1 e), fun e => h1 _ (h.2 e)⟩
   ·exact h2 _ h
   ·exact h.elim
theorem ops_mono {ds : List (Option Tmp)} : ∀ (ops : List Oper) (i : Nat) (st : St) (K K' : St → Prop), opsVC P O J ds ops i st K → (∀ st', K st' → K' st') → opsVC P O J ds ops i st K'
 | [], i, st, K, K', h, hk => hk _ h
 | o :: rest, i, st, K, K', h, hk => guard_mono h (fun st h => res_mono h fun st' h => ops_mono rest _ _ _ _ h hk) (fun st h => ops_mono rest _ _ _ _ h hk)
theorem vc_mono : ∀ (c : Code) (st : St) (K K' : Ex → St → Prop), vc P O c st K → (∀ e st', K e st' → K' e st') → vc P O c st K'
 | .skip, st, K, K', h, hk => hk _ _ h
 | .label l, st, K, K', h, hk => hk _ _ h
 | .ret, st, K, K', h, hk => hk _ _ h
 | .exit id, st, K, K', h, hk => hk _ _ h
 | .seq a b, st, K, K', h, hk => vc_mono a st _ _ h fun e st' h => by
  cases e with
  | normal => exact vc_mono b st' _ _ h hk
  | exit i => exact hk _ _ h
  | ret => exact hk _ _ h
 | .cond c t e, st, K, K', h, hk => by
  simp only [vc, CondVC] at h ⊢
  split at h
  ·rename_i b hb
   exact ⟨fun e' => vc_mono t st _ _ (h.1 e') hk, fun e' => vc_mono e st _ _ (h.2 e') hk⟩
  ·exact h.elim
 | .block id c, st, K, K', h, hk => vc_mono c st _ _ h fun e st' h => by
  cases e with
  | normal => exact hk _ _ h
  | exit i =>
   simp only [blockK] at h ⊢
   split at h
   ·rename_i e; rw [if_pos e]; exact hk _ _ h
   ·rename_i e; rw [if_neg e]; exact hk _ _ h
  | ret => exact hk _ _ h
 | .scope c, st, K, K', h, hk => vc_mono c st _ _ h hk
 | .region id ops d, st, K, K', h, hk => by
  simp only [vc] at h ⊢
  split at h
  ·rename_i hh
   rw [if_pos hh]
   exact fun base okc ns outs a w ro Q h1 h2 hi hK => h base okc ns outs a w ro Q h1 h2 hi fun e st' a' w' hk' => hK e st' a' w' (hk e st' hk')
  ·rename_i hh
   rw [if_neg hh]
   exact ops_mono _ _ _ _ _ h fun st' h => FarVC.mono (hk _ _) h
 | .loop c, st, K, K', h, hk => by
  rcases h with h | h
  rotate_left
  ·exact .inr fun base okc ns outs a w ro Q h1 h2 hi hK => h base okc ns outs a w ro Q h1 h2 hi fun e st' a' w' hk' => hK e st' a' w' (hk e st' hk')
  obtain ⟨α, inv, μ, x0, h0, h1⟩ := h
  refine .inl ⟨α, inv, μ, x0, h0, fun x => vc_mono c _ _ _ (h1 x) fun e st' h => ?_⟩
  cases e with
  | normal => exact h
  | exit i => exact hk _ _ h
  | ret => exact hk _ _ h
 | .rangeFunc _ _ _ _, st, K, K', h, hk => fun base okc ns outs a w ro Q h1 h2 hi hK => h base okc ns outs a w ro Q h1 h2 hi fun e st' a' w' hk' => hK e st' a' w' (hk e st' hk')
 | .goto _, st, K, K', h, hk => h.elim
 | .refuse _, st, K, K', h, hk => h.elim
theorem loop_vc {c : Code} {st : St} {K : Ex → St → Prop} {α : Type} (Pr : α → Prop) (inv : α → St) (μ : α → Nat) (x0 : α) (hp0 : Pr x0) (h0 : Weak O st (inv x0))
  (h : ∀ x, Pr x → vc P O c (inv x) (thenK K fun st' => ∃ y, Pr y ∧ μ y < μ x ∧ Weak O st' (inv y))) {g : Tag K} : LoopOr P O c st K g :=
 .inl <| loopVC Pr inv μ x0 hp0 h0 h fun st K K' h hk => vc_mono c st K K' h hk
end
end Go.Sx
end
section
set_option linter.unusedVariables false
set_option linter.unusedSimpArgs false
set_option linter.defProp false
namespace Go.Sx
open Go.RowKit
theorem rSl_a000 (ag : Bool) (sz : Nat) (z : Option (List Value)) (e : TypeId) (k : Nat) (o full : Bool) (n k2 : Nat) (row : Nat → Nat → SV) : rSlice (some ⟨ag, sz, z, .slice e k⟩) (.arr o full n k2 row) none none none = .pure (0 ≤ (0 : Int) ∧ (0 : Int) ≤ (n : Int) ∧ (n : Int) ≤ (n : Int) ∧ k2 = k) (.arr o (full && true) ((n : Int) - (0 : Int)).toNat k (fun i j => row (((0 : Int) : Int).toNat + i) j)) := rfl
theorem rSl_a010 (ag : Bool) (sz : Nat) (z : Option (List Value)) (e : TypeId) (k : Nat) (o full : Bool) (n k2 : Nat) (row : Nat → Nat → SV) (kh : IntKind) (h : Int) : rSlice (some ⟨ag, sz, z, .slice e k⟩) (.arr o full n k2 row) none (some (.val (.int kh h))) none = .pure (0 ≤ (0 : Int) ∧ (0 : Int) ≤ h ∧ h ≤ (n : Int) ∧ k2 = k) (.arr o (full && false) (h - (0 : Int)).toNat k (fun i j => row (((0 : Int) : Int).toNat + i) j)) := rfl
theorem rSl_a011 (ag : Bool) (sz : Nat) (z : Option (List Value)) (e : TypeId) (k : Nat) (o full : Bool) (n k2 : Nat) (row : Nat → Nat → SV) (kh : IntKind) (h : Int) (km : IntKind) (m : Int) : rSlice (some ⟨ag, sz, z, .slice e k⟩) (.arr o full n k2 row) none (some (.val (.int kh h))) (some (.val (.int km m))) = .pure (0 ≤ (0 : Int) ∧ (0 : Int) ≤ h ∧ h ≤ (n : Int) ∧ h = m ∧ True ∧ k2 = k) (.arr o true (h - (0 : Int)).toNat k (fun i j => row (((0 : Int) : Int).toNat + i) j)) := by simp only [rSlice, bnd, Option.isSome_some]
theorem rSl_a100 (ag : Bool) (sz : Nat) (z : Option (List Value)) (e : TypeId) (k : Nat) (o full : Bool) (n k2 : Nat) (row : Nat → Nat → SV) (kl : IntKind) (l : Int) : rSlice (some ⟨ag, sz, z, .slice e k⟩) (.arr o full n k2 row) (some (.val (.int kl l))) none none = .pure (0 ≤ l ∧ l ≤ (n : Int) ∧ (n : Int) ≤ (n : Int) ∧ k2 = k) (.arr o (full && true) ((n : Int) - l).toNat k (fun i j => row ((l : Int).toNat + i) j)) := rfl
theorem rSl_a110 (ag : Bool) (sz : Nat) (z : Option (List Value)) (e : TypeId) (k : Nat) (o full : Bool) (n k2 : Nat) (row : Nat → Nat → SV) (kl : IntKind) (l : Int) (kh : IntKind) (h : Int) : rSlice (some ⟨ag, sz, z, .slice e k⟩) (.arr o full n k2 row) (some (.val (.int kl l))) (some (.val (.int kh h))) none = .pure (0 ≤ l ∧ l ≤ h ∧ h ≤ (n : Int) ∧ k2 = k) (.arr o (full && false) (h - l).toNat k (fun i j => row ((l : Int).toNat + i) j)) := rfl
theorem rSl_a111 (ag : Bool) (sz : Nat) (z : Option (List Value)) (e : TypeId) (k : Nat) (o full : Bool) (n k2 : Nat) (row : Nat → Nat → SV) (kl : IntKind) (l : Int) (kh : IntKind) (h : Int) (km : IntKind) (m : Int) : rSlice (some ⟨ag, sz, z, .slice e k⟩) (.arr o full n k2 row) (some (.val (.int kl l))) (some (.val (.int kh h))) (some (.val (.int km m))) = .pure (0 ≤ l ∧ l ≤ h ∧ h ≤ (n : Int) ∧ h = m ∧ True ∧ k2 = k) (.arr o true (h - l).toNat k (fun i j => row ((l : Int).toNat + i) j)) := by simp only [rSlice, bnd, Option.isSome_some]
theorem rSl_v000 (ag : Bool) (sz : Nat) (z : Option (List Value)) (e : TypeId) (k : Nat) (id n k2 : Nat) : rSlice (some ⟨ag, sz, z, .slice e k⟩) (.vec id n k2) none none none = .pure ((0 : Int) = (0 : Int) ∧ 0 ≤ (n : Int) ∧ (n : Int) ≤ (n : Int) ∧ k2 = k) (.vec id ((n : Int)).toNat k) := rfl
theorem rSl_v010 (ag : Bool) (sz : Nat) (z : Option (List Value)) (e : TypeId) (k : Nat) (id n k2 : Nat) (kh : IntKind) (h : Int) : rSlice (some ⟨ag, sz, z, .slice e k⟩) (.vec id n k2) none (some (.val (.int kh h))) none = .pure ((0 : Int) = (0 : Int) ∧ 0 ≤ h ∧ h ≤ (n : Int) ∧ k2 = k) (.vec id (h).toNat k) := rfl
theorem rSl_v011 (ag : Bool) (sz : Nat) (z : Option (List Value)) (e : TypeId) (k : Nat) (id n k2 : Nat) (kh : IntKind) (h : Int) (km : IntKind) (m : Int) : rSlice (some ⟨ag, sz, z, .slice e k⟩) (.vec id n k2) none (some (.val (.int kh h))) (some (.val (.int km m))) = .pure ((0 : Int) = (0 : Int) ∧ 0 ≤ h ∧ h ≤ (n : Int) ∧ h = m ∧ True ∧ k2 = k) (.cut id (h).toNat k) := by simp only [rSlice, bnd, Option.isSome_some]
theorem rSl_v100 (ag : Bool) (sz : Nat) (z : Option (List Value)) (e : TypeId) (k : Nat) (id n k2 : Nat) (kl : IntKind) (l : Int) : rSlice (some ⟨ag, sz, z, .slice e k⟩) (.vec id n k2) (some (.val (.int kl l))) none none = .pure (l = (0 : Int) ∧ 0 ≤ (n : Int) ∧ (n : Int) ≤ (n : Int) ∧ k2 = k) (.vec id ((n : Int)).toNat k) := rfl
theorem rSl_v110 (ag : Bool) (sz : Nat) (z : Option (List Value)) (e : TypeId) (k : Nat) (id n k2 : Nat) (kl : IntKind) (l : Int) (kh : IntKind) (h : Int) : rSlice (some ⟨ag, sz, z, .slice e k⟩) (.vec id n k2) (some (.val (.int kl l))) (some (.val (.int kh h))) none = .pure (l = (0 : Int) ∧ 0 ≤ h ∧ h ≤ (n : Int) ∧ k2 = k) (.vec id (h).toNat k) := rfl
theorem rSl_v111 (ag : Bool) (sz : Nat) (z : Option (List Value)) (e : TypeId) (k : Nat) (id n k2 : Nat) (kl : IntKind) (l : Int) (kh : IntKind) (h : Int) (km : IntKind) (m : Int) : rSlice (some ⟨ag, sz, z, .slice e k⟩) (.vec id n k2) (some (.val (.int kl l))) (some (.val (.int kh h))) (some (.val (.int km m))) = .pure (l = (0 : Int) ∧ 0 ≤ h ∧ h ≤ (n : Int) ∧ h = m ∧ True ∧ k2 = k) (.cut id (h).toNat k) := by simp only [rSlice, bnd, Option.isSome_some]
theorem rSl_n000 (ag : Bool) (sz : Nat) (z : Option (List Value)) (e : TypeId) (k : Nat) (u : Value) : rSlice (some ⟨ag, sz, z, .slice e k⟩) (.val u) none none none = .pure (nilSlice u = true ∧ (0 : Int) = (0 : Int) ∧ 0 = (0 : Int)) (.val (.slice none 0 0)) := rfl
theorem rSl_n010 (ag : Bool) (sz : Nat) (z : Option (List Value)) (e : TypeId) (k : Nat) (u : Value) (kh : IntKind) (h : Int) : rSlice (some ⟨ag, sz, z, .slice e k⟩) (.val u) none (some (.val (.int kh h))) none = .pure (nilSlice u = true ∧ (0 : Int) = (0 : Int) ∧ h = (0 : Int)) (.val (.slice none 0 0)) := rfl
theorem rSl_n011 (ag : Bool) (sz : Nat) (z : Option (List Value)) (e : TypeId) (k : Nat) (u : Value) (kh : IntKind) (h : Int) (km : IntKind) (m : Int) : rSlice (some ⟨ag, sz, z, .slice e k⟩) (.val u) none (some (.val (.int kh h))) (some (.val (.int km m))) = .pure (nilSlice u = true ∧ (0 : Int) = (0 : Int) ∧ h = (0 : Int) ∧ m = 0 ∧ True) (.val (.slice none 0 0)) := by simp only [rSlice, bnd, Option.isSome_some]
theorem rSl_n100 (ag : Bool) (sz : Nat) (z : Option (List Value)) (e : TypeId) (k : Nat) (u : Value) (kl : IntKind) (l : Int) : rSlice (some ⟨ag, sz, z, .slice e k⟩) (.val u) (some (.val (.int kl l))) none none = .pure (nilSlice u = true ∧ l = (0 : Int) ∧ 0 = (0 : Int)) (.val (.slice none 0 0)) := rfl
theorem rSl_n110 (ag : Bool) (sz : Nat) (z : Option (List Value)) (e : TypeId) (k : Nat) (u : Value) (kl : IntKind) (l : Int) (kh : IntKind) (h : Int) : rSlice (some ⟨ag, sz, z, .slice e k⟩) (.val u) (some (.val (.int kl l))) (some (.val (.int kh h))) none = .pure (nilSlice u = true ∧ l = (0 : Int) ∧ h = (0 : Int)) (.val (.slice none 0 0)) := rfl
theorem rSl_n111 (ag : Bool) (sz : Nat) (z : Option (List Value)) (e : TypeId) (k : Nat) (u : Value) (kl : IntKind) (l : Int) (kh : IntKind) (h : Int) (km : IntKind) (m : Int) : rSlice (some ⟨ag, sz, z, .slice e k⟩) (.val u) (some (.val (.int kl l))) (some (.val (.int kh h))) (some (.val (.int km m))) = .pure (nilSlice u = true ∧ l = (0 : Int) ∧ h = (0 : Int) ∧ m = 0 ∧ True) (.val (.slice none 0 0)) := by simp only [rSlice, bnd, Option.isSome_some]
theorem rSl_s000 (ag : Bool) (sz : Nat) (z : Option (List Value)) (e : TypeId) (k : Nat) (id off n k2 : Nat) : rSlice (some ⟨ag, sz, z, .slice e k⟩) (.asl id off n k2) none none none = .pure (0 ≤ (0 : Int) ∧ ((0 : Int) = (0 : Int) ∨ (0 : Int) < (n : Int)) ∧ (0 : Int) ≤ (n : Int) ∧ (n : Int) ≤ (n : Int) ∧ k2 = k) (.asl id (off + ((0 : Int) : Int).toNat * k) ((n : Int) - (0 : Int)).toNat k) := rfl
theorem rSl_s010 (ag : Bool) (sz : Nat) (z : Option (List Value)) (e : TypeId) (k : Nat) (id off n k2 : Nat) (kh : IntKind) (h : Int) : rSlice (some ⟨ag, sz, z, .slice e k⟩) (.asl id off n k2) none (some (.val (.int kh h))) none = .pure (0 ≤ (0 : Int) ∧ ((0 : Int) = (0 : Int) ∨ (0 : Int) < h) ∧ (0 : Int) ≤ h ∧ h ≤ (n : Int) ∧ k2 = k) (.asl id (off + ((0 : Int) : Int).toNat * k) (h - (0 : Int)).toNat k) := rfl
theorem rSl_s100 (ag : Bool) (sz : Nat) (z : Option (List Value)) (e : TypeId) (k : Nat) (id off n k2 : Nat) (kl : IntKind) (l : Int) : rSlice (some ⟨ag, sz, z, .slice e k⟩) (.asl id off n k2) (some (.val (.int kl l))) none none = .pure (0 ≤ l ∧ (l = (0 : Int) ∨ l < (n : Int)) ∧ l ≤ (n : Int) ∧ (n : Int) ≤ (n : Int) ∧ k2 = k) (.asl id (off + (l : Int).toNat * k) ((n : Int) - l).toNat k) := rfl
theorem rSl_s110 (ag : Bool) (sz : Nat) (z : Option (List Value)) (e : TypeId) (k : Nat) (id off n k2 : Nat) (kl : IntKind) (l : Int) (kh : IntKind) (h : Int) : rSlice (some ⟨ag, sz, z, .slice e k⟩) (.asl id off n k2) (some (.val (.int kl l))) (some (.val (.int kh h))) none = .pure (0 ≤ l ∧ (l = (0 : Int) ∨ l < h) ∧ l ≤ h ∧ h ≤ (n : Int) ∧ k2 = k) (.asl id (off + (l : Int).toNat * k) (h - l).toNat k) := rfl
def RP :=
 And.intro @Go.Sx.vc_skip <|
 And.intro @Go.Sx.vc_label <|
 And.intro @Go.Sx.vc_seq <|
 And.intro @Go.Sx.vc_cond <|
 And.intro @Go.Sx.vc_block <|
 And.intro @Go.Sx.vc_exit <|
 And.intro @Go.Sx.vc_scope <|
 And.intro @Go.Sx.vc_region <|
 And.intro @Go.Sx.vc_regionN <|
 And.intro @Go.Sx.vc_regionF <|
 And.intro @Go.Sx.vc_regionH <|
 And.intro @Go.Sx.vc_regionHN <|
 And.intro @Go.Sx.farVC_nil <|
 And.intro @Go.Sx.farVC_cons <|
 And.intro @Go.Sx.vc_loop <|
 And.intro @Go.Sx.vc_range <|
 And.intro @Go.Sx.vc_ret <|
 And.intro @Go.Sx.inlK_normal <|
 And.intro @Go.Sx.inlK_ret <|
 And.intro @Go.Sx.roundMid_normal <|
 And.intro @Go.Sx.roundEnd_normal <|
 And.intro @Go.Sx.roundEnd_ret <|
 And.intro @Go.Sx.roundEnd_exit <|
 And.intro @Go.Sx.rangeEnd_normal <|
 And.intro @Go.Sx.rangeEnd_ret <|
 And.intro @Go.Sx.resultsVC_T <|
 And.intro @Go.Sx.opsVC_cons <|
 And.intro @Go.Sx.opsVC_nil <|
 And.intro @Go.Sx.guardVC_none <|
 And.intro @Go.Sx.guardVC_someT <|
 And.intro @Go.Sx.thenK_normal <|
 And.intro @Go.Sx.thenK_exit <|
 And.intro @Go.Sx.thenK_ret <|
 And.intro @Go.Sx.blockK_normal <|
 And.intro @Go.Sx.blockK_exit <|
 And.intro @Go.Sx.blockK_ret <|
 And.intro @Go.Sx.retVC.eq_1 <|
 And.intro @Go.Sx.retNVC.eq_1 <|
 And.intro @Go.Sx.resultsVC.eq_1 <|
 @Go.Sx.resultsVC.eq_2
def RQ0 :=
 And.intro @Go.Sx.apart_pp <|
 And.intro @Go.Sx.apart_pe <|
 And.intro @Go.Sx.apart_ep <|
 And.intro @Go.Sx.apart_ee <|
 And.intro @Go.Sx.apart_ref <|
 And.intro @Go.Sx.argFr.eq_1 <|
 And.intro @Go.Sx.argFr.eq_2 <|
 And.intro @Go.Sx.dsts.eq_1 <|
 And.intro @Go.Sx.dsts.eq_2 <|
 And.intro @Go.Sx.rangeT_ready <|
 And.intro @Go.Sx.rangeT_retd <|
 And.intro @Go.Sx.rangeT_left <|
 And.intro @Go.Sx.isReady_ready <|
 And.intro @Go.Sx.isBusy_busy <|
 And.intro @Go.Sx.putPs.eq_1 <|
 And.intro @Go.Sx.putPs.eq_2 <|
 And.intro @Go.Sx.oneSV.eq_1 <|
 And.intro @Go.Sx.oneSV.eq_2 <|
 And.intro @Go.Sx.resVT_nil <|
 And.intro @Go.Sx.resVT_tmp <|
 And.intro @Go.Sx.resVT_cell <|
 And.intro @Go.Sx.resLT_pure <|
 And.intro @Go.Sx.resLT_get <|
 And.intro @Go.Sx.splitT_and <|
 And.intro @Go.Sx.splitT_or <|
 And.intro @Go.Sx.guardN_some <|
 And.intro @Go.Sx.guardB_t <|
 And.intro @Go.Sx.guardB_f <|
 And.intro @Go.Sx.guardB_u <|
 And.intro @Go.Sx.nth.eq_1 <|
 And.intro @Go.Sx.nth.eq_2 <|
 And.intro @Go.Sx.nth.eq_3 <|
 And.intro @Go.Sx.splitT_true <|
 And.intro @Go.Sx.splitT_false <|
 And.intro @Go.Sx.splitT_not <|
 And.intro @Go.Sx.iteT_true <|
 And.intro @Go.Sx.iteT_false <|
 And.intro @Go.Sx.stepR.eq_1 <|
 And.intro @Go.Sx.stepR.eq_2 <|
 And.intro @Go.Sx.stepR.eq_3 <|
 And.intro @Go.Sx.stepR.eq_4 <|
 And.intro @Go.Sx.stepR.eq_5 <|
 And.intro @Go.Sx.stepR.eq_6 <|
 And.intro @Go.Sx.stepR.eq_7 <|
 And.intro @Go.Sx.stepR.eq_8 <|
 And.intro @Go.Sx.stepR.eq_9 <|
 And.intro @Go.Sx.stepR.eq_10 <|
 And.intro @Go.Sx.stepR.eq_11 <|
 And.intro @Go.Sx.stepR.eq_12 <|
 And.intro @Go.Sx.stepR.eq_13 <|
 And.intro @Go.Sx.stepR.eq_14 <|
 And.intro @Go.Sx.stepR.eq_15 <|
 And.intro @Go.Sx.stepR.eq_16 <|
 And.intro @Go.Sx.stepR.eq_17 <|
 And.intro @Go.Sx.stepR.eq_18 <|
 And.intro @Go.Sx.stepR.eq_19 <|
 And.intro @Go.Sx.stepR.eq_20 <|
 And.intro @Go.Sx.stepR.eq_21 <|
 And.intro @Go.Sx.stepR.eq_22 <|
 And.intro @Go.Sx.stepR.eq_23 <|
 And.intro @Go.Sx.stepR.eq_24 <|
 And.intro @Go.Sx.stepR.eq_25 <|
 And.intro @Go.Sx.stepR.eq_26 <|
 And.intro @Go.Sx.stepR.eq_27 <|
 And.intro @Go.Sx.stepR.eq_28 <|
 And.intro @Go.Sx.stepR.eq_29 <|
 And.intro @Go.Sx.stepR.eq_30 <|
 And.intro @Go.Sx.env.eq_1 <|
 And.intro @Go.Sx.env.eq_2 <|
 And.intro @Go.Sx.env.eq_3 <|
 And.intro @Go.Sx.env.eq_4 <|
 And.intro @Go.Sx.envs.eq_1 <|
 And.intro @Go.Sx.envs.eq_2 <|
 And.intro @Go.Sx.look.eq_1 <|
 And.intro @Go.Sx.look.eq_2 <|
 And.intro @Go.Sx.rBox.eq_1 <|
 And.intro @Go.Sx.rBox.eq_2 <|
 And.intro @Go.Sx.rBox.eq_3 <|
 And.intro @Go.Sx.rBox.eq_4 <|
 And.intro @Go.Sx.rAlloc.eq_1 <|
 And.intro @Go.Sx.rAlloc.eq_2 <|
 And.intro @Go.Sx.rLoad.eq_1 <|
 And.intro @Go.Sx.rLoad.eq_2 <|
 And.intro @Go.Sx.rLoad.eq_3 <|
 And.intro @Go.Sx.rLoad.eq_4 <|
 And.intro @Go.Sx.rLoad.eq_5 <|
 And.intro @Go.Sx.rLoad.eq_6 <|
 And.intro @Go.Sx.rLoad.eq_7 <|
 And.intro @Go.Sx.rLoad.eq_8 <|
 And.intro @Go.Sx.rLoad.eq_9 <|
 And.intro @Go.Sx.rStore.eq_1 <|
 And.intro @Go.Sx.rStore.eq_2 <|
 And.intro @Go.Sx.rStore.eq_3 <|
 And.intro @Go.Sx.rStore.eq_4 <|
 And.intro @Go.Sx.rStore.eq_5 <|
 And.intro @Go.Sx.rStore.eq_6 <|
 And.intro @Go.Sx.rStore.eq_7 <|
 And.intro @Go.Sx.rStore.eq_8 <|
 And.intro @Go.Sx.rNil.eq_1 <|
 And.intro @Go.Sx.rNil.eq_2 <|
 And.intro @Go.Sx.rNil.eq_3 <|
 And.intro @Go.Sx.rNil.eq_4 <|
 And.intro @Go.Sx.rNil.eq_5 <|
 And.intro @Go.Sx.rFieldAddr.eq_1 <|
 And.intro @Go.Sx.rFieldAddr.eq_2 <|
 And.intro @Go.Sx.rField.eq_1 <|
 And.intro @Go.Sx.rField.eq_2 <|
 And.intro @Go.Sx.rIndexAddr.eq_1 <|
 And.intro @Go.Sx.rIndexAddr.eq_2 <|
 And.intro @Go.Sx.rIndexAddr.eq_3 <|
 And.intro @Go.Sx.rIndexAddr.eq_4 <|
 And.intro @Go.Sx.rIndexAddr.eq_5 <|
 And.intro @Go.Sx.rIndexAddr.eq_6 <|
 And.intro @Go.Sx.rIndexAddr.eq_7 <|
 And.intro @Go.Sx.rIndexAddr.eq_8 <|
 And.intro @Go.Sx.rIndexAddr.eq_9 <|
 And.intro @Go.Sx.rIndexAddr.eq_10 <|
 And.intro @Go.Sx.rExtract.eq_1 <|
 And.intro @Go.Sx.rExtract.eq_2 <|
 And.intro @Go.Sx.rCall.eq_1 <|
 And.intro @Go.Sx.rLen.eq_1 <|
 And.intro @Go.Sx.rLen.eq_2 <|
 And.intro @Go.Sx.rLen.eq_3 <|
 And.intro @Go.Sx.rLen.eq_4 <|
 And.intro @Go.Sx.rLen.eq_5 <|
 And.intro @Go.Sx.rLen.eq_6 <|
 And.intro @Go.Sx.rLen.eq_7 <|
 And.intro @Go.Sx.rLen.eq_8 <|
 And.intro @Go.Sx.rLen.eq_9 <|
 And.intro @Go.Sx.rAppend.eq_1 <|
 And.intro @Go.Sx.rCopy.eq_1 <|
 And.intro @Go.Sx.rClear.eq_1 <|
 And.intro @Go.Sx.rMakeSlice.eq_1 <|
 @Go.Sx.rSlice.eq_17
def RQ1 :=
 And.intro @Go.Sx.rSlice.eq_13 <|
 And.intro @Go.Sx.rSlice.eq_14 <|
 And.intro @Go.Sx.rSlice.eq_15 <|
 And.intro @Go.Sx.rSlice.eq_16 <|
 And.intro @Go.Sx.rSlice.eq_17 <|
 And.intro @Go.Sx.rSl_a000 <|
 And.intro @Go.Sx.rSl_a010 <|
 And.intro @Go.Sx.rSl_a011 <|
 And.intro @Go.Sx.rSl_a100 <|
 And.intro @Go.Sx.rSl_a110 <|
 And.intro @Go.Sx.rSl_a111 <|
 And.intro @Go.Sx.rSl_v000 <|
 And.intro @Go.Sx.rSl_v010 <|
 And.intro @Go.Sx.rSl_v011 <|
 And.intro @Go.Sx.rSl_v100 <|
 And.intro @Go.Sx.rSl_v110 <|
 And.intro @Go.Sx.rSl_v111 <|
 And.intro @Go.Sx.rSl_n000 <|
 And.intro @Go.Sx.rSl_n010 <|
 And.intro @Go.Sx.rSl_n011 <|
 And.intro @Go.Sx.rSl_n100 <|
 And.intro @Go.Sx.rSl_n110 <|
 And.intro @Go.Sx.rSl_n111 <|
 And.intro @Go.Sx.rSl_s000 <|
 And.intro @Go.Sx.rSl_s010 <|
 And.intro @Go.Sx.rSl_s100 <|
 And.intro @Go.Sx.rSl_s110 <|
 And.intro @Go.Sx.bnd.eq_1 <|
 And.intro @Go.Sx.bnd.eq_2 <|
 And.intro @Go.Sx.bnd.eq_3 <|
 And.intro @Go.Sx.rBuild.eq_1 <|
 And.intro @Go.Sx.rBuildSlice.eq_1 <|
 And.intro @Go.Sx.fillS.eq_1 <|
 And.intro @Go.Sx.fillS.eq_2 <|
 And.intro @Go.Sx.envp.eq_1 <|
 And.intro @Go.Sx.envp.eq_2 <|
 And.intro @Go.Sx.rowsOf.eq_1 <|
 And.intro @Go.Sx.rowsOf.eq_2 <|
 And.intro @Go.Sx.rowsOf.eq_3 <|
 And.intro @Go.Sx.rowsOf.eq_4 <|
 And.intro @Go.Sx.rowsOf.eq_5 <|
 And.intro @Go.Sx.rowsOf.eq_6 <|
 And.intro @Go.Sx.nilSlice.eq_1 <|
 And.intro @Go.Sx.nilSlice.eq_2 <|
 And.intro @Go.Sx.zrep.eq_1 <|
 And.intro @Go.Sx.zrep.eq_2 <|
 And.intro @Option.map_some.{0,0} <|
 And.intro @Option.map_none.{0,0} <|
 And.intro @Option.isNone_none.{0} <|
 And.intro @Option.isNone_some.{0} <|
 And.intro @Option.isSome_some.{0} <|
 And.intro @Int.sub_zero <|
 And.intro @Int.toNat_natCast <|
 And.intro @Int.toNat_zero <|
 And.intro @List.set_cons_zero.{0} <|
 And.intro @List.set_cons_succ.{0} <|
 And.intro @Nat.zero_mul <|
 And.intro @Nat.mul_one <|
 And.intro @Bool.false_and <|
 And.intro @Bool.and_false <|
 And.intro @List.getD_cons_zero.{0} <|
 And.intro @List.getD_cons_succ.{0} <|
 And.intro @Go.Sx.oneRows.eq_1 <|
 And.intro @Go.Sx.rMin.eq_1 <|
 And.intro @Go.Sx.rMin.eq_2 <|
 And.intro @Go.Sx.rMin.eq_3 <|
 And.intro @Go.Sx.rMin2.eq_1 <|
 And.intro @Go.Sx.rMin2.eq_2 <|
 And.intro @Go.Sx.rBin.eq_1 <|
 And.intro @Go.Sx.rBin.eq_2 <|
 And.intro @Go.Sx.rBin.eq_3 <|
 And.intro @Go.Sx.rBin.eq_4 <|
 And.intro @Go.Sx.rBin.eq_5 <|
 And.intro @Go.Sx.rBin.eq_6 <|
 And.intro @Go.Sx.rBin.eq_7 <|
 And.intro @Go.Sx.rBin.eq_8 <|
 And.intro @Go.Sx.rBin.eq_10 <|
 And.intro @Go.Sx.rNilS.eq_1 <|
 And.intro @Go.Sx.rNilS.eq_2 <|
 And.intro @Option.isNone_none.{0} <|
 And.intro @Option.isNone_some.{0} <|
 And.intro @Go.Sx.rUn.eq_1 <|
 And.intro @Go.Sx.rUn.eq_2 <|
 And.intro @Go.Sx.rUn.eq_3 <|
 And.intro @Go.Sx.rConv.eq_1 <|
 And.intro @Go.Sx.rConv.eq_2 <|
 And.intro @Go.Sx.rPick.eq_1 <|
 And.intro @Go.Sx.rPick.eq_2 <|
 And.intro @Go.Sx.eqKind.eq_1 <|
 And.intro @Go.Sx.eqKind.eq_2 <|
 And.intro @Go.Sx.eqKind.eq_3 <|
 And.intro @Go.Sx.eqKind.eq_4 <|
 And.intro @Go.Sx.eqKind.eq_5 <|
 And.intro @Go.Sx.eqKind.eq_6 <|
 And.intro @Go.Sx.eqKind.eq_7 <|
 And.intro @Go.Sx.rInt.eq_1 <|
 And.intro @Go.Sx.rInt.eq_2 <|
 And.intro @Go.Sx.rInt.eq_3 <|
 And.intro @Go.Sx.rInt.eq_4 <|
 And.intro @Go.Sx.rInt.eq_5 <|
 And.intro @Go.Sx.rInt.eq_6 <|
 And.intro @Go.Sx.rInt.eq_7 <|
 And.intro @Go.Sx.rInt.eq_8 <|
 And.intro @Go.Sx.rInt.eq_9 <|
 And.intro @Go.Sx.rInt.eq_10 <|
 And.intro @Go.Sx.rInt.eq_11 <|
 And.intro @Go.Sx.rInt.eq_12 <|
 And.intro @Go.Sx.rInt.eq_13 <|
 And.intro @Go.Sx.rInt.eq_14 <|
 And.intro @Go.Sx.rInt.eq_15 <|
 And.intro @Go.Sx.rInt.eq_16 <|
 And.intro @Go.Sx.vals.eq_1 <|
 And.intro @Go.Sx.vals.eq_2 <|
 And.intro @Go.Sx.sel.eq_1 <|
 And.intro @Go.Sx.sel.eq_2 <|
 And.intro @Go.Sx.oneCell.eq_1 <|
 And.intro @Go.Sx.oneCell.eq_2 <|
 And.intro @Go.Sx.oneCell.eq_3 <|
 And.intro @Go.Sx.oneCell.eq_4 <|
 And.intro @Go.Sx.oneCell.eq_5 <|
 And.intro @Go.Sx.oneCell.eq_6 <|
 And.intro @Go.Sx.oneCell.eq_7 <|
 And.intro @Go.Sx.oneCell.eq_8 <|
 And.intro @Go.Sx.oneCell.eq_9 <|
 And.intro @Go.Sx.oneCell.eq_10 <|
 And.intro @Go.Sx.oneCell.eq_11 <|
 And.intro @Go.Sx.oneCell.eq_12 <|
 And.intro @Go.Sx.oneCell.eq_13 <|
 And.intro @Go.Sx.allOne.eq_1 <|
 And.intro @Go.Sx.allOne.eq_2 <|
 And.intro @Go.Sx.undefSV.eq_1 <|
 And.intro @Go.Sx.resVC_pure <|
 And.intro @Go.Sx.resVC_get <|
 And.intro @Go.Sx.resVC_new <|
 And.intro @Go.Sx.resVC_upd <|
 And.intro @Go.Sx.resVC_updv <|
 And.intro @Go.Sx.resVC_grow <|
 And.intro @Go.Sx.resVC_call <|
 And.intro @Go.Sx.resVC_yield <|
 And.intro @Go.Sx.resVC_raw <|
 And.intro @Go.Sx.rMakeMap.eq_1 <|
 And.intro @Go.Sx.rMakeMap.eq_2 <|
 And.intro @Go.Sx.rLookup.eq_1 <|
 And.intro @Go.Sx.rLookup.eq_2 <|
 And.intro @Go.Sx.rUpdate.eq_1 <|
 And.intro @Go.Sx.rUpdate.eq_2 <|
 And.intro @Go.Sx.rDelete.eq_1 <|
 And.intro @Go.Sx.rDelete.eq_2 <|
 And.intro @Go.Sx.rClearMap.eq_1 <|
 And.intro @Go.Sx.rClearMap.eq_2 <|
 And.intro @Go.Sx.rIndex.eq_1 <|
 And.intro @Go.Sx.rIndex.eq_2 <|
 And.intro @Go.Sx.rIndex.eq_3 <|
 And.intro @Go.Sx.mapOf.eq_1 <|
 And.intro @Go.Sx.mapOf.eq_2 <|
 @Go.Sx.mapOf.eq_3
def RQ2 :=
 And.intro @Go.Sx.keyV.eq_1 <|
 And.intro @Go.Sx.keyV.eq_2 <|
 And.intro @Go.Sx.keyV.eq_3 <|
 And.intro @Go.Sx.keyVs.eq_1 <|
 And.intro @Go.Sx.keyVs.eq_2 <|
 And.intro @Go.Sx.keyVs.eq_3 <|
 And.intro @Go.Sx.rEq.eq_1 <|
 And.intro @Go.Sx.fitS.eq_1 <|
 And.intro @Go.Sx.fitS.eq_2 <|
 And.intro @Go.Sx.fitS.eq_3 <|
 And.intro @Go.Sx.lfOk.eq_1 <|
 And.intro @Go.Sx.lfOk.eq_2 <|
 And.intro @Go.Sx.lfOk.eq_3 <|
 And.intro @Go.Sx.eqSVs.eq_1 <|
 And.intro @Go.Sx.eqSVs.eq_2 <|
 And.intro @Go.Sx.eqSVs.eq_3 <|
 And.intro @Go.Sx.eqVs.eq_1 <|
 And.intro @Go.Sx.eqVs.eq_2 <|
 And.intro @Go.Sx.eqVs.eq_3 <|
 And.intro @Go.Sx.eqV.eq_1 <|
 And.intro @Go.Sx.eqV.eq_2 <|
 And.intro @Go.Sx.eqV.eq_3 <|
 And.intro @Option.isSome_none.{0} <|
 And.intro @Go.Sx.dropBlk.eq_1 <|
 And.intro @Go.Sx.dropBlk.eq_2 <|
 And.intro @Go.Sx.setId.eq_1 <|
 And.intro @Go.Sx.setId.eq_2 <|
 And.intro @Go.Sx.setId.eq_3 <|
 And.intro @Go.Sx.setId.eq_4 <|
 And.intro @Go.Sx.setId.eq_5 <|
 And.intro @Go.Sx.setId.eq_6 <|
 And.intro @Go.Sx.setId.eq_7 <|
 And.intro @Go.Sx.setId.eq_8 <|
 And.intro @Go.Sx.setId.eq_9 <|
 And.intro @Go.Sx.setId.eq_10 <|
 And.intro @Go.Sx.setId.eq_11 <|
 And.intro @Go.Sx.setId.eq_12 <|
 And.intro @Go.Sx.setId.eq_13 <|
 And.intro @Go.Sx.setId.eq_14 <|
 And.intro @Go.Sx.setId.eq_15 <|
 And.intro @Go.Sx.setId.eq_16 <|
 And.intro @Go.Sx.setIdL.eq_1 <|
 And.intro @Go.Sx.setIdL.eq_2 <|
 And.intro @Go.Sx.put_some <|
 And.intro @Go.Sx.put_none <|
 And.intro @Go.Sx.putFr.eq_1 <|
 And.intro @Go.Sx.putI_some <|
 And.intro @Go.Sx.putI_none <|
 And.intro @Go.Sx.putIn.eq_1 <|
 And.intro @Go.Sx.putIn.eq_2 <|
 And.intro @Go.Sx.inD.eq_1 <|
 And.intro @Go.Sx.inD.eq_2 <|
 And.intro @Go.Sx.inD.eq_3 <|
 And.intro @Go.Sx.setBlk.eq_1 <|
 And.intro @Go.Sx.setBlk.eq_2 <|
 And.intro @Go.Sx.condVC_bool <|
 And.intro @Go.Sx.blk.eq_1 <|
 And.intro @Go.Sx.blk.eq_2 <|
 And.intro @if_true.{1} <|
 And.intro @if_false.{1} <|
 And.intro @ite_true.{1} <|
 And.intro @ite_false.{1} <|
 And.intro @Nat.add_zero <|
 And.intro @Nat.zero_add <|
 And.intro @true_and <|
 And.intro @and_true <|
 And.intro @List.getElem?_cons_succ.{0} <|
 And.intro @List.getElem?_cons_zero.{0} <|
 And.intro @List.length_cons.{0} <|
 And.intro @List.length_nil.{0} <|
 And.intro @List.toList_toArray.{0} <|
 And.intro @List.cons_append.{0} <|
 And.intro @List.nil_append.{0} <|
 And.intro @List.append_nil.{0} <|
 And.intro @List.drop_zero.{0} <|
 And.intro @List.drop_succ_cons.{0} <|
 And.intro @List.take_succ_cons.{0} <|
 And.intro @List.take_zero.{0} <|
 And.intro @ne_eq.{1} <|
 And.intro @not_false_eq_true <|
 And.intro @not_true_eq_false <|
 And.intro @Go.Sx.Wk.eq_1 <|
 And.intro @Go.Sx.Wk.eq_2 <|
 And.intro @Go.Sx.Wk.eq_3 <|
 And.intro @Go.Sx.Wk.eq_4 <|
 And.intro @Go.Sx.Wk.eq_5 <|
 And.intro @Go.Sx.Wk.eq_6 <|
 And.intro @Go.Sx.Wk.eq_7 <|
 And.intro @Go.Sx.Wk.eq_8 <|
 And.intro @Go.Sx.Wk.eq_9 <|
 And.intro @Go.Sx.Wk.eq_10 <|
 And.intro @Go.Sx.Wk.eq_11 <|
 And.intro @Go.Sx.Wk.eq_12 <|
 And.intro @Go.Sx.Wk.eq_13 <|
 And.intro @Go.Sx.Wk.eq_14 <|
 And.intro @Go.Sx.Wk.eq_15 <|
 And.intro @Go.Sx.Wk.eq_16 <|
 And.intro @Go.Sx.Wk.eq_17 <|
 And.intro @Go.Sx.Wk.eq_18 <|
 And.intro @Go.Sx.Wk.eq_19 <|
 And.intro @Go.Sx.Wk.eq_20 <|
 And.intro @Go.Sx.Wk.eq_21 <|
 And.intro @Go.Sx.Wk.eq_22 <|
 And.intro @Go.Sx.Wk.eq_23 <|
 And.intro @Go.Sx.Wk.eq_24 <|
 And.intro @Go.Sx.Wk.eq_25 <|
 And.intro @Go.Sx.Wk.eq_26 <|
 And.intro @Go.Sx.Wk.eq_27 <|
 And.intro @Go.Sx.Wk.eq_28 <|
 And.intro @Go.Sx.Wk.eq_29 <|
 And.intro @Go.Sx.Wk.eq_30 <|
 And.intro @Go.Sx.Wk.eq_31 <|
 And.intro @Go.Sx.Wk.eq_32 <|
 And.intro @Go.Sx.Wk.eq_33 <|
 And.intro @Go.Sx.Wk.eq_34 <|
 And.intro @Go.Sx.Wk.eq_35 <|
 And.intro @Go.Sx.Wk.eq_36 <|
 And.intro @Go.Sx.WkL.eq_1 <|
 And.intro @Go.Sx.WkL.eq_2 <|
 And.intro @Go.Sx.WkL.eq_3 <|
 And.intro @Go.Sx.WkB.eq_1 <|
 And.intro @Go.Sx.WkB.eq_2 <|
 And.intro @Go.Sx.WkB.eq_3 <|
 And.intro @Go.Sx.WkB.eq_4 <|
 And.intro @Go.Sx.WkB.eq_5 <|
 And.intro @Go.Sx.WkB.eq_6 <|
 And.intro @Go.Sx.WkB.eq_7 <|
 And.intro @Go.Sx.WkB.eq_8 <|
 And.intro @Go.Sx.WkF.eq_1 <|
 And.intro @Go.Sx.WkF.eq_2 <|
 And.intro @Go.Sx.WkH.eq_1 <|
 And.intro @Go.Sx.WkH.eq_2 <|
 And.intro @Go.Sx.WkH.eq_3 <|
 And.intro @Go.Sx.ren.eq_1 <|
 And.intro @Go.Sx.ren.eq_2 <|
 And.intro @Go.Sx.isIn.eq_1 <|
 And.intro @Go.Sx.isIn.eq_2 <|
 And.intro @Go.Sx.injOn.eq_1 <|
 And.intro @Go.Sx.injOn.eq_2 <|
 @List.all_nil.{0}
def RQ3 :=
 And.intro @List.all_cons.{0} <|
 And.intro @Bool.and_true <|
 And.intro @Bool.true_and <|
 And.intro @Bool.and_self <|
 And.intro @Go.Sx.svIte.eq_1 <|
 And.intro @Go.Sx.Sub.eq_1 <|
 And.intro @Go.Sx.Sub.eq_2 <|
 And.intro @Go.Sx.Sub.eq_3 <|
 And.intro @Go.Sx.Sub.eq_4 <|
 And.intro @Go.Sx.Sub.eq_5 <|
 And.intro @Go.Sx.Sub.eq_6 <|
 And.intro @Go.Sx.Sub.eq_7 <|
 And.intro @Go.Sx.Sub.eq_8 <|
 And.intro @Go.Sx.Sub.eq_9 <|
 And.intro @Go.Sx.Sub.eq_10 <|
 And.intro @Go.Sx.Sub.eq_11 <|
 And.intro @Go.Sx.Sub.eq_12 <|
 And.intro @Go.Sx.Sub.eq_13 <|
 And.intro @Go.Sx.Sub.eq_14 <|
 And.intro @Go.Sx.Sub.eq_15 <|
 And.intro @Go.Sx.Sub.eq_16 <|
 And.intro @Go.Sx.Sub.eq_17 <|
 And.intro @Go.Sx.Sub.eq_18 <|
 And.intro @Go.Sx.Sub.eq_19 <|
 And.intro @Go.Sx.Sub.eq_20 <|
 And.intro @Go.Sx.Sub.eq_21 <|
 And.intro @Go.Sx.Sub.eq_22 <|
 And.intro @Go.Sx.SubL.eq_1 <|
 And.intro @Go.Sx.SubL.eq_2 <|
 And.intro @Go.Sx.SubL.eq_3 <|
 And.intro @Go.Sx.Cl.eq_1 <|
 And.intro @Go.Sx.Cl.eq_2 <|
 And.intro @Go.Sx.Cl.eq_3 <|
 And.intro @Go.Sx.Cl.eq_4 <|
 And.intro @Go.Sx.Cl.eq_5 <|
 And.intro @Go.Sx.Cl.eq_6 <|
 And.intro @Go.Sx.Cl.eq_7 <|
 And.intro @Go.Sx.Cl.eq_8 <|
 And.intro @Go.Sx.Cl.eq_9 <|
 And.intro @Go.Sx.ClL.eq_1 <|
 And.intro @Go.Sx.ClL.eq_2 <|
 And.intro @Go.Sx.ClO.eq_1 <|
 And.intro @Go.Sx.ClO.eq_2 <|
 And.intro @Go.Sx.ClO.eq_3 <|
 And.intro @Go.Sx.ClO.eq_4 <|
 And.intro @Go.Sx.ClO.eq_5 <|
 And.intro @Go.Sx.ClO.eq_6 <|
 And.intro @Go.Sx.ClO.eq_7 <|
 And.intro @Go.Sx.ClOL.eq_1 <|
 And.intro @Go.Sx.ClOL.eq_2 <|
 And.intro @Go.Sx.ClB.eq_1 <|
 And.intro @Go.Sx.ClB.eq_2 <|
 And.intro @Go.Sx.ClB.eq_3 <|
 And.intro @Go.Sx.ClB.eq_4 <|
 And.intro @Go.Sx.Fresh.eq_1 <|
 And.intro @Go.Sx.Fresh.eq_2 <|
 And.intro @Go.Sx.Fresh.eq_3 <|
 And.intro @Go.Sx.Fresh.eq_4 <|
 And.intro @Go.Sx.Fresh.eq_5 <|
 And.intro @Go.Sx.Fresh.eq_6 <|
 And.intro @Go.Sx.Fresh.eq_7 <|
 And.intro @Go.Sx.Fresh.eq_8 <|
 And.intro @Go.Sx.Fresh.eq_9 <|
 And.intro @Go.Sx.FreshL.eq_1 <|
 And.intro @Go.Sx.FreshL.eq_2 <|
 And.intro @Go.Sx.FreshO.eq_1 <|
 And.intro @Go.Sx.FreshO.eq_2 <|
 And.intro @Go.Sx.FreshO.eq_3 <|
 And.intro @Go.Sx.FreshO.eq_4 <|
 And.intro @Go.Sx.FreshO.eq_5 <|
 And.intro @Go.Sx.FreshO.eq_6 <|
 And.intro @Go.Sx.FreshO.eq_7 <|
 And.intro @Go.Sx.FreshOL.eq_1 <|
 And.intro @Go.Sx.FreshOL.eq_2 <|
 And.intro @Go.Sx.FreshB.eq_1 <|
 And.intro @Go.Sx.FreshB.eq_2 <|
 And.intro @Go.Sx.FreshB.eq_3 <|
 And.intro @Go.Sx.FreshB.eq_4 <|
 And.intro @Go.Sx.SubO.eq_1 <|
 And.intro @Go.Sx.SubO.eq_2 <|
 And.intro @Go.Sx.SubO.eq_3 <|
 And.intro @Go.Sx.SubO.eq_4 <|
 And.intro @Go.Sx.SubO.eq_5 <|
 And.intro @Go.Sx.SubO.eq_6 <|
 And.intro @Go.Sx.SubO.eq_7 <|
 And.intro @Go.Sx.SubO.eq_8 <|
 And.intro @Go.Sx.SubO.eq_9 <|
 And.intro @Go.Sx.SubO.eq_10 <|
 And.intro @Go.Sx.SubO.eq_11 <|
 And.intro @Go.Sx.SubO.eq_12 <|
 And.intro @Go.Sx.SubO.eq_13 <|
 And.intro @Go.Sx.SubO.eq_14 <|
 And.intro @Go.Sx.SubO.eq_15 <|
 And.intro @Go.Sx.SubO.eq_16 <|
 And.intro @Go.Sx.SubO.eq_17 <|
 And.intro @Go.Sx.SubO.eq_18 <|
 And.intro @Go.Sx.SubO.eq_19 <|
 And.intro @Go.Sx.SubO.eq_20 <|
 And.intro @Go.Sx.SubOL.eq_1 <|
 And.intro @Go.Sx.SubOL.eq_2 <|
 And.intro @Go.Sx.SubOL.eq_3 <|
 And.intro @Go.Sx.SubB.eq_1 <|
 And.intro @Go.Sx.SubB.eq_2 <|
 And.intro @Go.Sx.SubB.eq_3 <|
 And.intro @Go.Sx.SubB.eq_4 <|
 And.intro @Go.Sx.resultVC.eq_1 <|
 And.intro @Go.Sx.resultVC.eq_2 <|
 And.intro @Go.Sx.Old.eq_1 <|
 And.intro @Go.Sx.Old.eq_2 <|
 And.intro @Go.Sx.Old.eq_3 <|
 And.intro @Go.Sx.Old.eq_4 <|
 And.intro @Go.Sx.Old.eq_5 <|
 And.intro @Go.Sx.Old.eq_6 <|
 And.intro @Go.Sx.Old.eq_7 <|
 And.intro @Go.Sx.Old.eq_8 <|
 And.intro @Go.Sx.Old.eq_9 <|
 And.intro @Go.Sx.OldL.eq_1 <|
 And.intro @Go.Sx.OldL.eq_2 <|
 And.intro @true_implies <|
 @and_self
def RQ := And.intro @implies_true.{1} <| And.intro @implies_true.{0} <| And.intro @forall_const.{1} <| And.intro @forall_const.{0} <| And.intro RQ0 <| And.intro RQ1 <| And.intro RQ2 RQ3
def RZ := And.intro @decide_true <| And.intro @decide_false <| And.intro Bool.not_true <| And.intro Bool.not_false <| And.intro @and_self <| And.intro Nat.zero_add <| And.intro Int.toNat_natCast Int.toNat_one
end Go.Sx
end
section
namespace Go.Sx
end Go.Sx
end
section
set_option linter.unusedVariables false
set_option linter.unusedSimpArgs false
namespace Go.Sx
open Go.RowKit
section
variable {P : Program}
def EffVC (P : Program) (f : FuncId) (args : List SV) (hp : List (Nat × Blk)) (id : Nat) (Q : List (Nat × Blk) → Nat → SV → Prop) : Prop :=
 ∀ (O : Ctx) (fr : List (Nat × SV)), InlineVC P O f args ⟨fr, hp, id⟩ fun st' res => st'.fr = fr ∧ Q st'.hp st'.nid res
theorem EffVC.mono {f : FuncId} {args : List SV} {hp : List (Nat × Blk)} {id : Nat} {Q Q' : List (Nat × Blk) → Nat → SV → Prop} (h : EffVC P f args hp id Q) (hk : ∀ hp' nid' res, Q hp' nid' res → Q' hp' nid' res) : EffVC P f args hp id Q' :=
 fun O fr => inline_mono (h O fr) fun st' sv ⟨e, hq⟩ => ⟨e, hk _ _ _ hq⟩
theorem InvR.far {fs : List Fr} {lo : Nat} {rnd : Bool} {f0 : Nat → List (Nat × Nat)} {base : World} {okc : Nat → Prop} {ns k : Nat} {r : Nat → Option Nat} {outs : Outs} {st : St} {a : Act} {w : World} (h : InvR ⟨fs, lo, rnd, f0⟩ base okc ns k r outs st a w) (f : Nat → List (Nat × Nat)) : InvR ⟨fs, lo, rnd, f⟩ base okc ns k r outs st a w :=
 ⟨h.sat, h.keys, h.fr, h.size, h.lo, h.out, h.rfix, h.defers⟩
def SubHp (hp hp' : List (Nat × Blk)) : Prop := ∀ id x, blk hp' id = some x → blk hp id = some x
theorem SubHp.refl (hp : List (Nat × Blk)) : SubHp hp hp := fun _ _ h => h
theorem EffVC.sub {f : FuncId} {args : List SV} {hp hp2 : List (Nat × Blk)} {id : Nat} {Q : List (Nat × Blk) → Nat → SV → Prop} (hh : SubHp hp hp2) (h : EffVC P f args hp2 id Q) : EffVC P f args hp id Q := by
 intro O fr base okc ns r outs a w vs h0 hl ha
 have hs := h0.sat.sub hh
 have h2 : InvR O base okc ns id r outs (St.put { ({ fr := fr, hp := hp, nid := id } : St) with hp := hp2 } none undefSV) (a.put none undef) w := h0.step hs (fun id x hx => h0.keys id x (hh id x hx)) (Nat.le_refl _) (d := none) (fun t ht => by cases ht) (.val undef)
 exact h O fr base okc ns r outs a w vs h2 hl fun i sv hi => hs.rep (ha i sv hi)
theorem EffVC.weak {f : FuncId} {args : List SV} {hp : List (Nat × Blk)} {id : Nat} {Q Q' : List (Nat × Blk) → Nat → SV → Prop} (h : EffVC P f args hp id Q)
  (hk : ∀ hp' nid' res, Q hp' nid' res → ∃ hp2, SubHp hp' hp2 ∧ Q' hp2 nid' res) : EffVC P f args hp id Q' := by
 intro O fr base okc ns r outs a w vs h0 hl ha
 obtain ⟨e1, e2⟩ := h O fr base okc ns r outs a w vs h0 hl ha
 refine ⟨e1, e2.mono fun e w' ⟨v, st', r', res, g1, ⟨gf, gq⟩, g3, g4, g5⟩ => ?_⟩
 obtain ⟨fr', hp', nid'⟩ := st'
 cases gf
 obtain ⟨hp2, hs2, hq2⟩ := hk _ _ _ gq
 have hs := g4.sat.sub hs2
 exact ⟨v, ⟨fr', hp2, nid'⟩, r', res, g1, ⟨rfl, hq2⟩, g3, (g4.step hs (fun id x hx => g4.keys id x (hs2 id x hx)) (Nat.le_refl _) (d := none) (fun t ht => by cases ht) (.val undef)), hs.rep g5⟩
theorem LoopOr.weak {O : Ctx} {c : Code} {st st0 : St} {K : Ex → St → Prop} {g g' : Tag K} (h : LoopOr P O c st0 K g) (hw : Weak O st st0) : LoopOr P O c st K g' := by
 rcases h with ⟨α, inv, μ, x0, h0, h1⟩ | h
 ·exact .inl ⟨α, inv, μ, x0, hw.trans h0, h1⟩
 ·exact .inr fun base okc ns outs a w ro Q h1 h2 hi hK => h base okc ns outs a w ro Q h1 h2 (hw _ _ _ _ _ _ hi) hK
mutual
theorem sub_refl {hp : List (Nat × Blk)} : ∀ (s : SV), Old s → Sub hp s s
 | .top, _ => by simp [Sub]
 | .val v, _ => by simp [Sub]
 | .agg l, h => by simp only [Old] at h; simp only [Sub]; exact subL_refl l h
 | .tup l, h => by simp only [Old] at h; simp only [Sub]; exact subL_refl l h
 | .fn f a b, h => by simp only [Old] at h; simp only [Sub]; exact ⟨trivial, subL_refl a h.1, subL_refl b h.2⟩
 | .ref o n row, h => by simp only [Old] at h; simp only [Sub]; exact ⟨id, Nat.le_refl _, fun j hj => sub_refl (row j) (h.2 j hj)⟩
 | .arr o full n k row, h => by simp only [Old] at h; simp only [Sub]; exact ⟨id, id, trivial, trivial, fun i j hi hj => sub_refl (row i j) (h.2 i j hi hj)⟩
 | .cmp o fit dom get, h => by simp only [Old] at h; simp only [Sub]; exact ⟨id, trivial, trivial, fun key hk => sub_refl (get key) (h.2 key hk)⟩
 | .cut _ _ _, h => by simp [Old] at h
 | .ptr _ _, h => by simp [Old] at h
 | .elt _ _ _ _, h => by simp [Old] at h
 | .vec _ _ _, h => by simp [Old] at h
 | .mp _, h => by simp [Old] at h
 | .asl _ _ _ _, h => by simp [Old] at h
 | .que _ _ _ _, h => by simp [Old] at h
 | .yld _, h => by simp [Old] at h
theorem subL_refl {hp : List (Nat × Blk)} : ∀ (l : List SV), OldL l → SubL hp l l
 | [], _ => by simp [SubL]
 | a :: l, h => by simp only [OldL] at h; simp only [SubL]; exact ⟨sub_refl a h.1, subL_refl l h.2⟩
end
mutual
theorem wk_refl {hp : List (Nat × Blk)} {mm : Nat → Option Nat} {nn : Nat} {sl : Nat → Bool} : ∀ (s : SV), Old s → Wk hp mm nn sl s s
 | .top, _ => by simp [Wk]
 | .val v, _ => by simp [Wk]
 | .agg l, h => by simp only [Old] at h; simp only [Wk]; exact wkL_refl l h
 | .tup l, h => by simp only [Old] at h; simp only [Wk]; exact wkL_refl l h
 | .fn f a b, h => by simp only [Old] at h; simp only [Wk]; exact ⟨trivial, wkL_refl a h.1, wkL_refl b h.2⟩
 | .ref o n row, h => by simp only [Old] at h; simp only [Wk]; exact ⟨id, Nat.le_refl _, fun j hj => wk_refl (row j) (h.2 j hj)⟩
 | .arr o full n k row, h => by simp only [Old] at h; simp only [Wk]; exact ⟨id, id, trivial, trivial, fun i j hi hj => wk_refl (row i j) (h.2 i j hi hj)⟩
 | .cmp o fit dom get, h => by simp only [Old] at h; simp only [Wk]; exact ⟨id, trivial, trivial, fun key hk => wk_refl (get key) (h.2 key hk)⟩
 | .cut _ _ _, h => by simp [Old] at h
 | .ptr _ _, h => by simp [Old] at h
 | .elt _ _ _ _, h => by simp [Old] at h
 | .vec _ _ _, h => by simp [Old] at h
 | .mp _, h => by simp [Old] at h
 | .asl _ _ _ _, h => by simp [Old] at h
 | .que _ _ _ _, h => by simp [Old] at h
 | .yld _, h => by simp [Old] at h
theorem wkL_refl {hp : List (Nat × Blk)} {mm : Nat → Option Nat} {nn : Nat} {sl : Nat → Bool} : ∀ (l : List SV), OldL l → WkL hp mm nn sl l l
 | [], _ => by simp [WkL]
 | a :: l, h => by simp only [OldL] at h; simp only [WkL]; exact ⟨wk_refl a h.1, wkL_refl l h.2⟩
end
end
end Go.Sx
end
