/- The proof engine. -/
import Derived.Test.YtpdebflfimmnpaaEE
section
set_option linter.unusedVariables false
set_option linter.unusedSimpArgs false
namespace Go.Sx
open Go.RowKit
def isApp : Op → Bool
 | .call ⟨.builtin .append, _, _⟩ => true
 | _ => false
def appTmps : Op → Option (Tmp × Tmp)
 | .call ⟨.builtin .append, args, _⟩ => match args.toList with
  | [.tmp s, .tmp x] => some (s, x)
  | _ => none
 | _ => none
def farO (far : List (Nat × Nat)) (ds : List (Option Tmp)) (i j a c : Nat) : Bool := far.any (fun p => decide (p.1 = a) && decide (p.2 = c)) && noneFrom ds i a && noneFrom ds j c
def dropOk (far : List (Nat × Nat)) (ds : List (Option Tmp)) (i j : Nat) (oi oj : Oper) : Bool :=
 match isApp oj.op with
 | false => !(isApp oi.op && isUpd oj.op)
 | true => !isUpd oi.op && match appTmps oj.op with
  | none => false
  | some (s, _) => match oi.op with
   | .load _ (.tmp a) => farO far ds i j a s
   | _ => match appTmps oi.op with
    | some (s', x') => farO far ds i j s' s && farO far ds i j x' s
    | none => !reads oi.op && !isApp oi.op
def dropsOk (far : List (Nat × Nat)) (ds : List (Option Tmp)) (ms : List Nat) (ops : List Oper) : Bool :=
 (List.range ops.length).all fun j => match ops[j]? with
  | none => true
  | some oj => (List.range j).all fun i => (ms.getD j 0).testBit i || match ops[i]? with
   | none => true
   | some oi => dropOk far ds i j oi oj
def drawOk3 (far : List (Nat × Nat)) (ops : List Oper) : Bool :=
 let ms := masks [] ops
 edgesOk 0 ops && apartOk (dsts ops) ms ops && pairOk far (dsts ops) ms ops && dropsOk far (dsts ops) ms ops && ops.all (fun o => calm o.op || isUpd o.op || (appTmps o.op).isSome)
def FarT (far : List (Nat × Nat)) (ds : List (Option Tmp)) (i j a c : Nat) : Prop := (a, c) ∈ far ∧ noneFrom ds i a = true ∧ noneFrom ds j c = true
theorem farO_spec {far : List (Nat × Nat)} {ds : List (Option Tmp)} {i j a c : Nat} (h : farO far ds i j a c = true) : FarT far ds i j a c := by
 simp only [farO, Bool.and_eq_true, List.any_eq_true, decide_eq_true_eq] at h
 obtain ⟨⟨⟨p, hp, h1, h2⟩, h3⟩, h4⟩ := h
 exact ⟨by rw [← h1, ← h2]; exact hp, h3, h4⟩
def DropP (far : List (Nat × Nat)) (ds : List (Option Tmp)) (i j : Nat) (oi oj : Oper) : Prop :=
 (isApp oj.op = false ∧ ¬ (isApp oi.op = true ∧ isUpd oj.op = true)) ∨
 (isApp oj.op = true ∧ isUpd oi.op = false ∧ ∃ s x, appTmps oj.op = some (s, x) ∧ ((∃ t a, oi.op = .load t (.tmp a) ∧ FarT far ds i j a s) ∨ (∃ s' x', appTmps oi.op = some (s', x') ∧ FarT far ds i j s' s ∧ FarT far ds i j x' s) ∨ (reads oi.op = false ∧ isApp oi.op = false)))
theorem dropOk_spec {far : List (Nat × Nat)} {ds : List (Option Tmp)} {i j : Nat} {oi oj : Oper} (h : dropOk far ds i j oi oj = true) : DropP far ds i j oi oj := by
 unfold dropOk at h
 split at h
 ·rename_i e
  refine .inl ⟨e, fun hh => ?_⟩
  rw [hh.1, hh.2] at h
  cases h
 ·rename_i e
  simp only [Bool.and_eq_true, Bool.not_eq_true'] at h
  refine .inr ⟨e, h.1, ?_⟩
  have h := h.2
  split at h
  ·cases h
  ·rename_i s x ea
   refine ⟨s, x, ea, ?_⟩
   split at h
   ·rename_i t a el
    exact .inl ⟨t, a, el, farO_spec h⟩
   ·split at h
    ·rename_i s' x' ea'
     simp only [Bool.and_eq_true] at h
     exact .inr (.inl ⟨s', x', ea', farO_spec h.1, farO_spec h.2⟩)
    ·simp only [Bool.and_eq_true, Bool.not_eq_true'] at h
     exact .inr (.inr h)
theorem dropsOk_spec {far : List (Nat × Nat)} {ds : List (Option Tmp)} {ms : List Nat} {ops : List Oper} (h : dropsOk far ds ms ops = true) {i j : Nat} {oi oj : Oper} (hi : ops[i]? = some oi) (hj : ops[j]? = some oj) (hij : i < j) :
  (ms.getD j 0).testBit i = true ∨ DropP far ds i j oi oj := by
 simp only [dropsOk, List.all_eq_true, List.mem_range] at h
 have h1 := h j (List.getElem?_eq_some_iff.1 hj).1
 rw [hj] at h1
 simp only [List.all_eq_true, List.mem_range] at h1
 have h2 := h1 i hij
 rw [hi] at h2
 simp only [Bool.or_eq_true] at h2
 exact h2.imp id dropOk_spec
def sBlk : SV → Option Nat
 | .ptr id _ => some id
 | .elt id _ _ _ => some id
 | .vec id _ _ => some id
 | .cut id _ _ => some id
 | .asl id _ _ _ => some id
 | .que id _ _ _ => some id
 | _ => none
theorem sBlk_of {s : SV} {id : Nat} (h : addrBlk s = some id) : sBlk s = some id := by cases s <;> first | exact h | (cases h; done)
def ApartS (s s' : SV) : Prop := match sBlk s, sBlk s' with
 | some i, some j => i ≠ j
 | _, _ => True
def FarVS : List (Nat × Nat) → St → Prop → Prop
 | [], _, X => X
 | (a, b) :: l, st, X => ApartS (look st.fr a) (look st.fr b) ∧ FarVS l st X
theorem farVS_spec : ∀ {l : List (Nat × Nat)} {st : St} {X : Prop}, FarVS l st X → X ∧ ∀ a b, (a, b) ∈ l → ApartS (look st.fr a) (look st.fr b)
 | [], st, X, h => ⟨h, fun a b hab => by cases hab⟩
 | (c, d) :: l, st, X, h => by
  obtain ⟨h1, h2⟩ := farVS_spec h.2
  refine ⟨h1, fun a b hab => ?_⟩
  rcases List.mem_cons.1 hab with e | e
  ·cases e; exact h.1
  ·exact h2 a b e
theorem rowsOf_one {hp hp' : List (Nat × Blk)} {x : SV} (h : ∀ id y, sBlk x = some id → blk hp id = some y → blk hp' id = some y) (hne : rowsOf hp x ≠ none) : rowsOf hp' x = rowsOf hp x := by
 unfold rowsOf at hne ⊢
 cases x with
 | vec id n k =>
  simp only [] at hne ⊢
  cases hb : blk hp id with
  | none => rw [hb] at hne; exact absurd rfl hne
  | some y => rw [h id y rfl hb]
 | cut id n k =>
  simp only [] at hne ⊢
  cases hb : blk hp id with
  | none => rw [hb] at hne; exact absurd rfl hne
  | some y => rw [h id y rfl hb]
 | asl id off n k =>
  simp only [] at hne ⊢
  cases hb : blk hp id with
  | none => rw [hb] at hne; exact absurd rfl hne
  | some y => rw [h id y rfl hb]
 | _ => rfl
theorem rAppend_one {P : Program} {t : TypeId} {hp hp' : List (Nat × Blk)} {s x : SV} (h : ∀ id y, (sBlk s = some id ∨ sBlk x = some id) → blk hp id = some y → blk hp' id = some y) (hne : rAppend P t hp s x ≠ .bad) : rAppend P t hp' s x = rAppend P t hp s x := by
 have hx : rowsOf hp x ≠ none := fun e => by
  unfold rAppend at hne
  rw [e] at hne
  refine hne ?_
  split
  ·split <;> rfl
  ·rfl
 have ex := rowsOf_one (hp' := hp') (fun id y hid hy => h id y (.inr hid) hy) hx
 unfold rAppend at hne ⊢
 rw [ex]
 split
 ·split
  ·split
   ·cases s with
    | vec id n k =>
     simp only [] at hne ⊢
     cases hb : blk hp id with
     | none => rw [hb] at hne; simp_all
     | some y => rw [h id y (.inl rfl) hb]
    | cut id n k =>
     have es : rowsOf hp (.cut id n k) ≠ none := fun e => by
      rw [e] at hne; simp_all
     rw [rowsOf_one (hp := hp) (hp' := hp') (fun id y hid hy => h id y (.inl hid) hy) es]
    | arr o full n k row => cases full <;> simp only [rowsOf]
    | _ => rfl
   ·rfl
  ·rfl
 ·rfl
theorem appTmps_form {op : Op} {s x : Tmp} (h : appTmps op = some (s, x)) : ∃ args ts, op = .call ⟨.builtin .append, args, ts⟩ ∧ args.toList = [.tmp s, .tmp x] := by
 unfold appTmps at h
 split at h
 ·rename_i args ts
  refine ⟨args, ts, rfl, ?_⟩
  split at h
  ·rename_i e
   simp only [Option.some.injEq, Prod.mk.injEq] at h
   rw [e, h.1, h.2]
  ·cases h
 ·cases h
theorem appTmps_isApp {op : Op} {s x : Tmp} (h : appTmps op = some (s, x)) : isApp op = true := by
 obtain ⟨args, ts, rfl, _⟩ := appTmps_form h
 rfl
theorem app_noUpd {op : Op} (h : isApp op = true) : isUpd op = false := by
 unfold isApp at h
 split at h
 ·rfl
 ·cases h
theorem app_noReads {op : Op} (h : isApp op = true) : reads op = false := by
 unfold isApp at h
 split at h
 ·rfl
 ·cases h
theorem stepR_appl {P : Program} {F : Nat → SV} {hp : List (Nat × Blk)} {op : Op} {s x : Tmp} (h : appTmps op = some (s, x)) : (∃ t, ∀ hp, stepR P F hp op = rAppend P t hp (F s) (F x)) ∨ (∀ hp, stepR P F hp op = .bad) := by
 obtain ⟨args, ts, rfl, e⟩ := appTmps_form h
 simp only [stepR, rCall, e]
 cases hts : ts.toList with
 | nil => right; intro hp; simp
 | cons t l => cases l with
  | nil => right; intro hp; simp
  | cons t' l' => cases l' with
   | cons _ _ => right; intro hp; simp
   | nil =>
    by_cases et : t = t'
    ·left; exact ⟨t, fun hp => by simp only [et, if_true]; rfl⟩
    ·right; intro hp; simp only [et, if_false]
theorem stepR_app_one {P : Program} {F : Nat → SV} {hp hp' : List (Nat × Blk)} {op : Op} {s x : Tmp} (ha : appTmps op = some (s, x)) (h : ∀ id y, (sBlk (F s) = some id ∨ sBlk (F x) = some id) → blk hp id = some y → blk hp' id = some y) (hne : stepR P F hp op ≠ .bad) : stepR P F hp' op = stepR P F hp op := by
 rcases stepR_appl (P := P) (F := F) (hp := hp) ha with ⟨t, e⟩ | e
 ·rw [e] at hne
  rw [e, e, rAppend_one h hne]
 ·exact absurd (e hp) hne
theorem rAppend_grow {P : Program} {t : TypeId} {hp : List (Nat × Blk)} {s x : SV} {obl : Prop} {old : Nat} {b : Blk} {mk : Nat → SV} (h : rAppend P t hp s x = .grow obl old b mk) : (∃ n k, s = .vec old n k) ∧ ∃ y, blk hp old = some y := by
 unfold rAppend at h
 (repeat' split at h) <;> first | (cases h; done) | skip
 all_goals
  rename_i e
  simp only [Res.grow.injEq] at h
  obtain ⟨_, rfl, _⟩ := h
  exact ⟨⟨_, _, rfl⟩, _, e⟩
theorem stepR_grow {P : Program} {F : Nat → SV} {hp : List (Nat × Blk)} {op : Op} {s x : Tmp} (ha : appTmps op = some (s, x)) {obl : Prop} {old : Nat} {b : Blk} {mk : Nat → SV} (h : stepR P F hp op = .grow obl old b mk) : (∃ n k, F s = .vec old n k) ∧ ∃ y, blk hp old = some y := by
 rcases stepR_appl (P := P) (F := F) (hp := hp) ha with ⟨t, e⟩ | e
 ·rw [e] at h; exact rAppend_grow h
 ·rw [e] at h; cases h
theorem stepR_app_form {P : Program} {F : Nat → SV} {hp : List (Nat × Blk)} {op : Op} {s x : Tmp} (ha : appTmps op = some (s, x)) : (∃ obl b mk, stepR P F hp op = .new obl b mk) ∨ (∃ obl old b mk, stepR P F hp op = .grow obl old b mk) ∨ stepR P F hp op = .bad := by
 rcases stepR_appl (P := P) (F := F) (hp := hp) ha with ⟨t, e⟩ | e
 ·rw [e]; exact rAppend_form _ _ _
 ·exact .inr (.inr (e hp))
def dropO (d : Option Nat) (hp : List (Nat × Blk)) : List (Nat × Blk) := match d with | some x => dropBlk hp x | none => hp
def TG (k : Nat) (nb : Nat → Option Blk) (up : Nat → Option (Nat × Blk)) (dr : Nat → Option Nat) (hp : List (Nat × Blk)) : Nat → List (Nat × Blk)
 | 0 => hp
 | i + 1 => match up i with
  | some (t, b) => setBlk (TG k nb up dr hp i) t b
  | none => consO (nb i) (k + i) (dropO (dr i) (TG k nb up dr hp i))
def DH (dr : Nat → Option Nat) (S : Nat → Bool) (hp : List (Nat × Blk)) : Nat → List (Nat × Blk)
 | 0 => hp
 | m + 1 => if S m = true then dropO (dr m) (DH dr S hp m) else DH dr S hp m
theorem blk_dropO (d : Option Nat) (hp : List (Nat × Blk)) (x : Nat) : blk (dropO d hp) x = if d = some x then none else blk hp x := by
 cases d with
 | none => simp [dropO]
 | some y =>
  simp only [dropO, blk_dropBlk, Option.some.injEq]
  by_cases e : x = y
  ·subst e; simp
  ·rw [if_neg e, if_neg (Ne.symm e)]
theorem DH_same {dr : Nat → Option Nat} {S : Nat → Bool} {hp : List (Nat × Blk)} {x : Nat} : ∀ {m : Nat}, (∀ j, j < m → S j = true → dr j ≠ some x) → blk (DH dr S hp m) x = blk hp x
 | 0, _ => rfl
 | m + 1, h => by
  have ih := DH_same (dr := dr) (S := S) (hp := hp) (x := x) (m := m) fun j hj => h j (by omega)
  simp only [DH]
  split
  ·rename_i hS
   rw [blk_dropO, if_neg (h m (by omega) hS)]; exact ih
  ·exact ih
theorem DH_back {dr : Nat → Option Nat} {S : Nat → Bool} {hp : List (Nat × Blk)} {x : Nat} {y : Blk} : ∀ {m : Nat}, blk (DH dr S hp m) x = some y → blk hp x = some y ∧ ∀ j, j < m → S j = true → dr j ≠ some x
 | 0, h => ⟨h, fun j hj => by omega⟩
 | m + 1, h => by
  simp only [DH] at h
  split at h
  ·rename_i hS
   rw [blk_dropO] at h
   split at h
   ·cases h
   ·rename_i hd
    obtain ⟨h1, h2⟩ := DH_back h
    refine ⟨h1, fun j hj hSj => ?_⟩
    by_cases e : j = m
    ·subst e; exact hd
    ·exact h2 j (by omega) hSj
  ·rename_i hS
   obtain ⟨h1, h2⟩ := DH_back h
   refine ⟨h1, fun j hj hSj => ?_⟩
   by_cases e : j = m
   ·subst e; exact absurd hSj hS
   ·exact h2 j (by omega) hSj
theorem DH_gone {dr : Nat → Option Nat} {S : Nat → Bool} {hp : List (Nat × Blk)} {x j m : Nat} (hj : j < m) (hS : S j = true) (hd : dr j = some x) : blk (DH dr S hp m) x = none := by
 cases h : blk (DH dr S hp m) x with
 | none => rfl
 | some y => exact absurd hd ((DH_back h).2 j hj hS)
theorem DH_congr {dr : Nat → Option Nat} {S T : Nat → Bool} {hp : List (Nat × Blk)} : ∀ {m : Nat}, (∀ j, j < m → dr j ≠ none → S j = T j) → DH dr S hp m = DH dr T hp m
 | 0, _ => rfl
 | m + 1, h => by
  have ih := DH_congr (dr := dr) (S := S) (T := T) (hp := hp) (m := m) fun j hj => h j (by omega)
  simp only [DH]
  cases hu : dr m with
  | none => simp only [dropO, ih, ite_self]
  | some p => rw [h m (by omega) (by rw [hu]; simp), ih]
theorem TG_shift (k : Nat) (nb : Nat → Option Blk) (up : Nat → Option (Nat × Blk)) (dr : Nat → Option Nat) (hp : List (Nat × Blk)) (j : Nat) :
  TG (k + 1) (fun i => nb (i + 1)) (fun i => up (i + 1)) (fun i => dr (i + 1)) (TG k nb up dr hp 1) j = TG k nb up dr hp (j + 1) := by
 induction j with
 | zero => rfl
 | succ j ih =>
  have e : k + 1 + j = k + (j + 1) := by omega
  have r1 : TG (k + 1) (fun i => nb (i + 1)) (fun i => up (i + 1)) (fun i => dr (i + 1)) (TG k nb up dr hp 1) (j + 1) = match up (j + 1) with
   | some (t, b) => setBlk (TG (k + 1) (fun i => nb (i + 1)) (fun i => up (i + 1)) (fun i => dr (i + 1)) (TG k nb up dr hp 1) j) t b
   | none => consO (nb (j + 1)) (k + 1 + j) (dropO (dr (j + 1)) (TG (k + 1) (fun i => nb (i + 1)) (fun i => up (i + 1)) (fun i => dr (i + 1)) (TG k nb up dr hp 1) j)) := rfl
  rw [r1, ih, e]
  rfl
inductive RunG (P : Program) (ds : List (Option Tmp)) (F : Nat → SV) (hp : List (Nat × Blk)) (id : Nat) (o : Oper) : SV → Option Blk → Option (Nat × Blk) → Option Nat → Prop
 | skip (hg : gval ds o.guard F = some false) : RunG P ds F hp id o undefSV none none none
 | run (sv : SV) (nb : Option Blk) (hg : gval ds o.guard F = some true) (hc : calm o.op = true) (hr : OpRun P F hp id o sv nb) : RunG P ds F hp id o sv nb none none
 | upd (obl : Prop) (t : Nat) (b : Blk) (hg : gval ds o.guard F = some true) (h : stepR P F hp o.op = .upd obl t b) (ho : obl) : RunG P ds F hp id o undefSV none (some (t, b)) none
 | newA (obl : Prop) (b : Blk) (mk : Nat → SV) (hg : gval ds o.guard F = some true) (ha : (appTmps o.op).isSome = true) (h : stepR P F hp o.op = .new obl b mk) (ho : obl) : RunG P ds F hp id o (mk id) (some b) none none
 | grow (obl : Prop) (old : Nat) (b : Blk) (mk : Nat → SV) (hg : gval ds o.guard F = some true) (ha : (appTmps o.op).isSome = true) (h : stepR P F hp o.op = .grow obl old b mk) (ho : obl) : RunG P ds F hp id o (mk id) (some b) none (some old)
theorem resolveG {P : Program} {O : Ctx} {J : Prop} (hJ : ¬ J) {ds : List (Option Tmp)} {K : St → Prop} : ∀ (ops : List Oper) (i : Nat) (st : St), (∀ o ∈ ops, (calm o.op || isUpd o.op || (appTmps o.op).isSome) = true) → opsVC P O J ds ops i st K →
  ∃ (res : Nat → SV) (nb : Nat → Option Blk) (up : Nat → Option (Nat × Blk)) (dr : Nat → Option Nat) (st' : St),
   (∀ j o, ops[j]? = some o → RunG P ds (FS (nth (dsts ops)) res (fun _ => true) (look st.fr) j) (TG (st.nid + i) nb up dr st.hp j) (st.nid + i + j) o (res j) (nb j) (up j) (dr j)) ∧
   look st'.fr = FS (nth (dsts ops)) res (fun _ => true) (look st.fr) ops.length ∧ st'.hp = TG (st.nid + i) nb up dr st.hp ops.length ∧ st'.nid = st.nid ∧ K st'
 | [], i, st, _, h => ⟨fun _ => .top, fun _ => none, fun _ => none, fun _ => none, st, fun j o ho => by simp at ho, rfl, rfl, rfl, h⟩
 | o :: ops, i, st, hall, h => by
  have go : ∀ (st2 : St) (sv : SV) (b : Option Blk) (u : Option (Nat × Blk)) (d : Option Nat), RunG P ds (look st.fr) st.hp (st.nid + i) o sv b u d → st2.nid = st.nid → st2.hp = (match u with | some (t, x) => setBlk st.hp t x | none => consO b (st.nid + i) (dropO d st.hp)) → look st2.fr = putF (look st.fr) o.dst sv → opsVC P O J ds ops (i + 1) st2 K →
    ∃ (res : Nat → SV) (nb : Nat → Option Blk) (up : Nat → Option (Nat × Blk)) (dr : Nat → Option Nat) (st' : St),
     (∀ j o', (o :: ops)[j]? = some o' → RunG P ds (FS (nth (dsts (o :: ops))) res (fun _ => true) (look st.fr) j) (TG (st.nid + i) nb up dr st.hp j) (st.nid + i + j) o' (res j) (nb j) (up j) (dr j)) ∧
     look st'.fr = FS (nth (dsts (o :: ops))) res (fun _ => true) (look st.fr) (o :: ops).length ∧ st'.hp = TG (st.nid + i) nb up dr st.hp (o :: ops).length ∧ st'.nid = st.nid ∧ K st' := by
   intro st2 sv b u d hr h1 h2 h3 h4
   obtain ⟨res, nb, up, dr, st', ha, hf, hh, hn, hk⟩ := resolveG hJ ops (i + 1) st2 (fun o ho => hall o (List.mem_cons_of_mem _ ho)) h4
   let res' : Nat → SV := fun j => match j with | 0 => sv | j + 1 => res j
   let nb' : Nat → Option Blk := fun j => match j with | 0 => b | j + 1 => nb j
   let up' : Nat → Option (Nat × Blk) := fun j => match j with | 0 => u | j + 1 => up j
   let dr' : Nat → Option Nat := fun j => match j with | 0 => d | j + 1 => dr j
   have eF : ∀ j, FS (nth (dsts ops)) res (fun _ => true) (look st2.fr) j = FS (nth (dsts (o :: ops))) res' (fun _ => true) (look st.fr) (j + 1) := fun j => by
    rw [← FS_shift, h3]
    congr 1
    funext t
    simp [putF, nth, dsts, res']
   have e1 : TG (st.nid + i) nb' up' dr' st.hp 1 = st2.hp := by rw [h2]; rfl
   have eH : ∀ j, TG (st2.nid + (i + 1)) nb up dr st2.hp j = TG (st.nid + i) nb' up' dr' st.hp (j + 1) := fun j => by
    rw [← TG_shift, e1, h1]; rfl
   refine ⟨res', nb', up', dr', st', fun j o' ho => ?_, ?_, ?_, hn.trans h1, hk⟩
   ·cases j with
    | zero => simp at ho; subst ho; exact hr
    | succ j =>
     have := ha j o' (by simpa using ho)
     rw [eF, eH, h1] at this
     have e : st.nid + (i + 1) + j = st.nid + i + (j + 1) := by omega
     rw [e] at this
     exact this
   ·rw [hf, eF]; rfl
   ·rw [hh, eH]; rfl
  obtain ⟨st1, hn, hh, hl, hcase⟩ := guard_resolve h
  have hst1 : st1 = ⟨st1.fr, st1.hp, st1.nid⟩ := rfl
  have ho := hall o List.mem_cons_self
  rcases hcase with ⟨hg, hrun⟩ | ⟨hg, hskip⟩
  ·generalize hres : stepR P (look st1.fr) st1.hp o.op = res at hrun
   rw [hl, hh] at hres
   by_cases hu : isUpd o.op = true
   ·rcases stepR_isUpd (P := P) (F := look st.fr) (hp := st.hp) hu with ⟨obl, j, b, e⟩ | e
    ·rw [hres] at e
     subst e
     exact go _ undefSV none (some (j, b)) none (.upd obl j b hg hres hrun.1) (by rw [put_nid]; exact hn) (by rw [put_hp, hh]) (by rw [look_putF, hl]) hrun.2
    ·rw [hres] at e
     subst e
     exact hrun.elim
   ·by_cases hap : (appTmps o.op).isSome = true
    ·obtain ⟨⟨s, x⟩, hsx⟩ := Option.isSome_iff_exists.1 hap
     rcases stepR_app_form (P := P) (F := look st.fr) (hp := st.hp) hsx with ⟨obl, b, mk, e⟩ | ⟨obl, old, b, mk, e⟩ | e
     ·rw [hres] at e
      subst e
      exact go _ (mk (st.nid + i)) (some b) none none (.newA obl b mk hg hap hres hrun.1) (by rw [put_nid]; exact hn) (by rw [put_hp]; simp only [consO, dropO, hh, hn]) (by rw [look_putF, hl, hn]) hrun.2
     ·rw [hres] at e
      subst e
      exact go _ (mk (st.nid + i)) (some b) none (some old) (.grow obl old b mk hg hap hres hrun.1.1) (by rw [put_nid]; exact hn) (by rw [put_hp]; simp only [consO, dropO, hh, hn]) (by rw [look_putF, hl, hn]) hrun.2
     ·rw [hres] at e
      subst e
      exact hrun.elim
    have hc : calm o.op = true := by
     rw [Bool.or_eq_true, Bool.or_eq_true] at ho
     exact (ho.resolve_right hap).resolve_right hu
    have hq := stepR_calm (P := P) (F := look st.fr) (hp := st.hp) hc
    rw [hres] at hq
    cases res with
    | bad => exact hrun.elim
    | pure obl sv => exact go _ sv none none none (.run _ _ hg hc (.pure obl sv hres hrun.1)) (by rw [put_nid, hn]) (by rw [put_hp, hh]; rfl) (by rw [hst1, look_putF, hl]) hrun.2
    | ex obl =>
     obtain ⟨sv, ho, hk⟩ := hrun
     exact go _ sv none none none (.run _ _ hg hc (.ex obl sv hres ho)) (by rw [put_nid, hn]) (by rw [put_hp, hh]; rfl) (by rw [hst1, look_putF, hl]) hk
    | new obl b mk => exact go _ (mk (st.nid + i)) (some b) none none (.run _ _ hg hc (.new obl b mk hres hrun.1)) (by rw [put_nid]; exact hn) (by rw [put_hp]; simp only [consO, dropO, hh, hn]) (by rw [look_putF, hl, hn]) hrun.2
    | upd obl j b => cases hq
    | updv obl j b sv => cases hq
    | grow obl j b sv => cases hq
    | call f args =>
     rcases hrun with ⟨pats, res, hcc, hs, hk⟩ | ⟨pats, b, res, hcc, hs, hk⟩ | ⟨hj, _⟩
     ·rw [hh] at hs
      exact go _ res none none none (.run _ _ hg hc (.call f args pats res hres hcc hs)) (by rw [put_nid, hn]) (by rw [put_hp, hh]; rfl) (by rw [hst1, look_putF, hl]) hk
     ·rw [hh] at hs
      exact go _ (setId (st.nid + i) res) (some b) none none (.run _ _ hg hc (.callN f args pats b res hres hcc hs)) (by rw [put_nid]; exact hn) (by rw [put_hp]; simp only [consO, dropO, hh, hn]) (by rw [look_putF, hl, hn]) hk
     ·exact absurd hj hJ
    | yield y args => exact absurd hrun.1 hJ
    | raw => exact absurd hrun.1 hJ
  ·exact go _ undefSV none none none (.skip hg) (by rw [put_nid, hn]) (by rw [put_hp, hh]; rfl) (by rw [hst1, look_putF, hl]) hskip
theorem runG_up {P : Program} {ds : List (Option Tmp)} {F : Nat → SV} {hp : List (Nat × Blk)} {id : Nat} {o : Oper} {sv : SV} {nb : Option Blk} {up : Option (Nat × Blk)} {dr : Option Nat} (h : RunG P ds F hp id o sv nb up dr) :
  (up = none ∨ (nb = none ∧ isUpd o.op = true ∧ dr = none)) ∧ (∀ t b, up = some (t, b) → ∃ y, blk hp t = some y) ∧ ∀ t, dr = some t → ∃ s x n k, appTmps o.op = some (s, x) ∧ F s = .vec t n k ∧ ∃ y, blk hp t = some y := by
 cases h with
 | skip hg => exact ⟨.inl rfl, fun t b h => (by cases h), fun t h => (by cases h)⟩
 | run hg hc hr => exact ⟨.inl rfl, fun t b h => (by cases h), fun t h => (by cases h)⟩
 | upd obl t b hg h ho => exact ⟨.inr ⟨rfl, stepR_upd h, rfl⟩, fun t' b' e => (by cases e; exact stepR_upd_blk h), fun t h => (by cases h)⟩
 | newA obl b mk hg ha h ho => exact ⟨.inl rfl, fun t b h => (by cases h), fun t h => (by cases h)⟩
 | grow obl old b mk hg ha h ho =>
  obtain ⟨⟨s, x⟩, hsx⟩ := Option.isSome_iff_exists.1 ha
  refine ⟨.inl rfl, fun t b h => (by cases h), fun t e => ?_⟩
  cases e
  obtain ⟨⟨n, k, e⟩, y⟩ := stepR_grow hsx h
  exact ⟨s, x, n, k, hsx, e, y⟩
theorem TG_keys {k : Nat} {nb : Nat → Option Blk} {up : Nat → Option (Nat × Blk)} {dr : Nat → Option Nat} {hp : List (Nat × Blk)} (hk : ∀ id x, blk hp id = some x → id < k) : ∀ {i : Nat} {x : Nat} {y : Blk}, blk (TG k nb up dr hp i) x = some y → x < k + i
 | 0, x, y, h => hk x y h
 | i + 1, x, y, h => by
  simp only [TG] at h
  split at h
  ·rw [blk_setBlk] at h
   split at h
   ·rename_i e; subst e
    cases hb : blk (TG k nb up dr hp i) x with
    | none => rw [hb] at h; cases h
    | some z => have := TG_keys hk hb; omega
   ·have := TG_keys hk h; omega
  ·cases hn : nb i with
   | none =>
    rw [hn] at h
    simp only [consO, blk_dropO] at h
    split at h
    ·cases h
    ·have := TG_keys hk (i := i) h; omega
   | some b =>
    rw [hn] at h
    simp only [consO, blk] at h
    split at h
    ·omega
    ·rw [blk_dropO] at h
     split at h
     ·cases h
     ·have := TG_keys hk (i := i) h; omega
theorem TG_sub {P : Program} {ds : List (Option Tmp)} {F : Nat → Nat → SV} {ops : List Oper} {res : Nat → SV} {nb : Nat → Option Blk} {up : Nat → Option (Nat × Blk)} {dr : Nat → Option Nat} {hp : List (Nat × Blk)} {k : Nat} (hk : ∀ id x, blk hp id = some x → id < k)
  (h : ∀ j o, ops[j]? = some o → RunG P ds (F j) (TG k nb up dr hp j) (k + j) o (res j) (nb j) (up j) (dr j)) : ∀ {i : Nat}, i ≤ ops.length → ∀ {x : Nat} {y : Blk}, blk (TG k nb up dr hp i) x = some y → blk (UH up (fun _ => true) (NH k nb hp ops.length) i) x = some y ∧ ∀ j, j < i → dr j ≠ some x
 | 0, hi, x, y, hx => ⟨NH_old hk hx, fun j hj => by omega⟩
 | i + 1, hi, x, y, hx => by
  have keys : ∀ {i : Nat} {x : Nat} {y : Blk}, blk (TG k nb up dr hp i) x = some y → x < k + i := fun {i x y} => TG_keys hk
  have ih := fun {x : Nat} {y : Blk} => TG_sub hk h (i := i) (by omega) (x := x) (y := y)
  obtain ⟨o, ho⟩ : ∃ o, ops[i]? = some o := ⟨ops[i], by simp [show i < ops.length by omega]⟩
  obtain ⟨h1, h2, h3⟩ := runG_up (h i o ho)
  simp only [TG] at hx
  simp only [UH, if_true]
  cases hu : up i with
  | some p =>
   obtain ⟨t, b⟩ := p
   rw [hu] at hx
   have hdn : dr i = none := by
    rcases h1 with e | ⟨_, _, e⟩
    ·rw [hu] at e; cases e
    ·exact e
   have hlast : ∀ z, blk (TG k nb up dr hp i) x = some z → ∀ j, j < i + 1 → dr j ≠ some x := fun z hz j hj => by
    by_cases e : j = i
    ·subst e; rw [hdn]; simp
    ·exact (ih hz).2 j (by omega)
   simp only [blk_setBlk] at hx ⊢
   split at hx
   ·rename_i e
    obtain ⟨z, hz⟩ := h2 t b hu
    refine ⟨?_, hlast z (by rw [e]; exact hz)⟩
    rw [if_pos e, (ih hz).1]
    rw [hz] at hx
    exact hx
   ·rename_i e
    refine ⟨?_, hlast y hx⟩
    rw [if_neg e]
    exact (ih hx).1
  | none =>
   rw [hu] at hx
   dsimp only at hx ⊢
   have old : ∀ y, blk (dropO (dr i) (TG k nb up dr hp i)) x = some y → blk (UH up (fun _ => true) (NH k nb hp ops.length) i) x = some y ∧ ∀ j, j < i + 1 → dr j ≠ some x := fun y hy => by
    rw [blk_dropO] at hy
    split at hy
    ·cases hy
    ·rename_i hd
     refine ⟨(ih hy).1, fun j hj => ?_⟩
     by_cases e : j = i
     ·subst e; exact hd
     ·exact (ih hy).2 j (by omega)
   cases hn : nb i with
   | none => rw [hn] at hx; exact old y hx
   | some b =>
    rw [hn] at hx
    simp only [consO, blk] at hx
    split at hx
    ·rename_i e
     subst e
     refine ⟨?_, fun j hj hd => ?_⟩
     ·rw [UH_other fun j hj _ t c hjc => ?_, NH_new hn (by omega), hx]
      obtain ⟨oj, hoj⟩ : ∃ oj, ops[j]? = some oj := ⟨ops[j], by simp [show j < ops.length by omega]⟩
      obtain ⟨z, hz⟩ := (runG_up (h j oj hoj)).2.1 t c hjc
      have := keys hz
      omega
     ·obtain ⟨oj, hoj⟩ : ∃ oj, ops[j]? = some oj := ⟨ops[j], by simp [show j < ops.length by omega]⟩
      obtain ⟨_, _, _, _, _, _, z, hz⟩ := (runG_up (h j oj hoj)).2.2 _ hd
      have := keys hz
      omega
    ·exact old y hx
section
variable {P : Program} {O : Ctx} {outs : Outs} {base : World} {okc : Nat → Prop} {ns : Nat}
def Mid3 (O : Ctx) (outs : Outs) (base : World) (okc : Nat → Prop) (ns nid m : Nat) (H : List (Nat × Blk)) (up : Nat → Option (Nat × Blk)) (dr : Nat → Option Nat) (dst : Nat → Option Tmp) (res : Nat → SV) (F : Nat → SV) (S : Nat → Bool) (a : Act) (w : World) : Prop :=
 (∀ j, j < m → S j = true → ∀ t b, up j = some (t, b) → NS nid m S t) ∧ (∀ j, j < m → S j = true → ∀ t, dr j = some t → NS nid m S t) ∧
 ∃ r, Sat base okc r (NS nid m S) (DH dr S (UH up S H m) m) w ∧ (∀ t, Rep r (NS nid m S) (Gd base okc r (NS nid m S) (DH dr S (UH up S H m) m) w) w (FS dst res S F m t) (a.tmps.getD t undef)) ∧ a.tmps.size = ns ∧ Ext O base okc r (NS nid m S) (DH dr S (UH up S H m) m) outs a w
theorem mid3_put {nid m i : Nat} {H : List (Nat × Blk)} {up : Nat → Option (Nat × Blk)} {dr : Nat → Option Nat} {dst : Nat → Option Tmp} {res F : Nat → SV} {S S' : Nat → Bool} {a : Act} {w w' : World} {r r' : Nat → Option Nat} (hS : ∀ j, S' j = (S j || decide (j = i))) (hi : i < m)
  (hlater : ∀ t, dst i = some t → ∀ j, j < m → i < j → dst j = some t → S j = false)
  (hF : ∀ t, Rep r (NS nid m S) (Gd base okc r (NS nid m S) (DH dr S (UH up S H m) m) w) w (FS dst res S F m t) (a.tmps.getD t undef)) (hsize : a.tmps.size = ns) (hdef : Ext O base okc r (NS nid m S) (DH dr S (UH up S H m) m) outs a w) (hlo : O.lo ≤ nid) (hd : ∀ t, dst i = some t → t < ns)
  (hu : ∀ j, j < m → S' j = true → ∀ t b, up j = some (t, b) → NS nid m S' t)
  (hdr : ∀ j, j < m → S' j = true → ∀ t, dr j = some t → NS nid m S' t)
  (hs : Step base okc r (NS nid m S) (DH dr S (UH up S H m) m) w r' (NS nid m S') (DH dr S' (UH up S' H m) m) w') {v : Value} (hv : Rep r' (NS nid m S') (Gd base okc r' (NS nid m S') (DH dr S' (UH up S' H m) m) w') w' (res i) v) : Mid3 O outs base okc ns nid m H up dr dst res F S' (a.put (dst i) v) w' := by
 refine ⟨hu, hdr, r', hs.sat, fun t => ?_, by cases dst i <;> simp [Act.put, hsize], hdef.step hs (fun i hi => .inl (Nat.lt_of_lt_of_le hi hlo)) _ _⟩
 rw [FS_set hS hi (hlater t), put_getD]
 by_cases e : dst i = some t
 ·rw [if_pos e, if_pos ⟨e, by rw [hsize]; exact hd t e⟩]; exact hv
 ·rw [if_neg e, if_neg (fun h => e h.1)]; exact hs.rep (hF t)
theorem draw_ok3 {far : List (Nat × Nat)} {ro : Option Nat} {ops : Array Oper} {id : Nat} {Q : Exit → Act → World → Prop} {st : St} {K : St → Prop} {a : Act} {w : World} (hm : P.follows .mixedOrders = true) (hok : drawOk3 far ops.toList = true) (hd : ops.toList.all (dstIn ns) = true)
  (h : Inv O base okc ns st.nid outs st a w) (hk : opsVC P O False (dsts ops.toList) ops.toList 0 st fun st' => FarVS far st' (K st'))
  (hK : ∀ st' a' w', K st' → Inv O base okc ns (st'.nid + ops.toList.length) outs st' a' w' → Q .normal a' w') : (Code.region id ops true).wpIn (FR ro) 0 P Q a w := by
 obtain ⟨r0, h0⟩ := h
 generalize hl : ops.toList = l at hok hd hk hK
 have hn : ops.size = l.length := by rw [← hl]; simp
 have hget : ∀ j : Nat, ops[j]? = l[j]? := fun j => by rw [← hl]; simp
 simp only [drawOk3, Bool.and_eq_true] at hok
 obtain ⟨⟨⟨⟨hedge, hapart⟩, hpair⟩, hdrops⟩, hall⟩ := hok
 have hedge := edgesOk_spec hedge
 have hall : ∀ o ∈ l, (calm o.op || isUpd o.op || (appTmps o.op).isSome) = true := List.all_eq_true.1 hall
 obtain ⟨res, nb, up, dr, st1, hops, hF1, hh1, hn1, hk1⟩ := resolveG (fun h => h) l 0 st hall hk
 rw [Nat.add_zero] at hops hh1
 obtain ⟨hk1, hfar⟩ := farVS_spec hk1
 have hdl : (dsts l).length = l.length := by
  have : ∀ l : List Oper, (dsts l).length = l.length := fun l => by induction l <;> simp [dsts, *]
  exact this l
 have hkeys0 := h0.keys
 have hsubT := fun {i : Nat} (hi : i ≤ l.length) {x : Nat} {y : Blk} => TG_sub hkeys0 hops (i := i) hi (x := x) (y := y)
 generalize hH : NH st.nid nb st.hp l.length = H at hsubT
 have hHk : ∀ x y, blk H x = some y → x < st.nid ∨ ∃ j, j < l.length ∧ nb j = some y ∧ x = st.nid + j := fun x y hxy => by
  rw [← hH] at hxy
  rcases NH_keys hxy with h | h
  ·exact .inl (hkeys0 _ _ h)
  ·exact .inr h
 have hclosed : ∀ (S : Nat → Bool) (i : Nat), Closed l S → (∃ o, l[i]? = some o ∧ ∀ e ∈ o.after, Region.binds .any e = true → S e.on = true) → Closed l (fun j => S j || decide (j = i)) := by
  rintro S i hc ⟨o, ho, he⟩ j oj hoj hS e hm' hb
  simp only [Bool.or_eq_true, decide_eq_true_eq] at hS ⊢
  rcases hS with hS | hS
  ·exact .inl (hc j oj hoj hS e hm' hb)
  ·subst hS
   rw [ho] at hoj; cases hoj
   exact .inl (he e hm' hb)
 have hready : ∀ (listed : Array Bool) (i : Nat), listed.size = l.length → i ∈ Region.ready .any ops listed → i < l.length ∧ listed.getD i false = false ∧ ∃ o, l[i]? = some o ∧ ∀ e ∈ o.after, Region.binds .any e = true → listed.getD e.on false = true := by
  intro listed i hsz hi
  obtain ⟨h1, o, h2, h3⟩ := mem_ready.1 hi
  rw [hget] at h2
  have hlt : i < l.length := (List.getElem?_eq_some_iff.1 h2).1
  refine ⟨hlt, ?_, o, h2, h3⟩
  have : i < listed.size := by omega
  simpa [this] using h1
 have hleast : ∀ (listed : Array Bool), listed.size = l.length → ∀ i, i < l.length → listed.getD i false = false → ∃ j, j ≤ i ∧ j ∈ Region.ready .any ops listed := by
  intro listed hsz i
  induction i using Nat.strongRecOn with
  | _ i ih =>
   intro hi hf
   obtain ⟨o, ho⟩ : ∃ o, l[i]? = some o := ⟨l[i], by simp [hi]⟩
   by_cases hall : ∀ e ∈ o.after, Region.binds .any e = true → listed.getD e.on false = true
   ·refine ⟨i, Nat.le_refl _, mem_ready.2 ⟨?_, o, by rw [hget]; exact ho, hall⟩⟩
    have : i < listed.size := by omega
    simpa [this] using hf
   ·have : ∃ e, e ∈ o.after ∧ Region.binds .any e = true ∧ listed.getD e.on false = false := by
     refine Classical.byContradiction fun hno => hall fun e he hb => ?_
     cases hv : listed.getD e.on false with
     | true => rfl
     | false => exact (hno ⟨e, he, hb, hv⟩).elim
    obtain ⟨e, he, hb, hv⟩ := this
    have hlt := hedge i o ho e he hb
    rw [Nat.zero_add] at hlt
    obtain ⟨j, hj, hr⟩ := ih e.on hlt (by omega) hv
    exact ⟨j, by omega, hr⟩
 have hdst : ∀ i o, l[i]? = some o → nth (dsts l) i = o.dst := fun i o ho => by rw [dsts_get, ho]; rfl
 have hdin : ∀ i t, nth (dsts l) i = some t → t < ns := fun i t ht => by
  rw [dsts_get] at ht
  cases ho : l[i]? with
  | none => simp [ho] at ht
  | some o =>
   simp only [ho, Option.bind_some] at ht
   have := List.all_eq_true.1 hd o (List.mem_of_getElem? ho)
   simpa [dstIn, ht] using this
 have hupd : ∀ j, j < l.length → up j ≠ none → ∃ oj, l[j]? = some oj ∧ isUpd oj.op = true := fun j hj hu => by
  obtain ⟨oj, hoj⟩ : ∃ oj, l[j]? = some oj := ⟨l[j], by simp [hj]⟩
  exact ⟨oj, hoj, ((runG_up (hops j oj hoj)).1.resolve_left hu).2.1⟩
 have walk : ∀ (fuel : Nat) (listed : Array Bool) (a : Act) (w : World), listed.size = l.length → Closed l (fun i => listed.getD i false) → cnt (fun i => listed.getD i false) l.length = fuel →
   Mid3 O outs base okc ns st.nid l.length H up dr (nth (dsts l)) res (look st.fr) (fun i => listed.getD i false) a w → wpAnyIn (FR ro) 0 P .any ops Q fuel listed a w := by
  intro fuel
  induction fuel with
  | zero =>
   intro listed a w hsz hcl hcnt hmid
   have hall := cnt_zero hcnt
   obtain ⟨_, _, r, hsat, hrep, hsize, hdef⟩ := hmid
   refine ⟨?_, hK st1 a w hk1 ?_⟩
   ·cases hr : Region.ready .any ops listed with
    | nil => rfl
    | cons x xs =>
     have := hready listed x hsz (by rw [hr]; exact List.mem_cons_self)
     rw [hall x this.1] at this
     exact absurd this.2.1 (by simp)
   ·have e1 : NS st.nid l.length (fun i => listed.getD i false) = (· < st.nid + l.length) := by
     funext x
     simp only [NS, eq_iff_iff]
     constructor
     ·rintro (h | ⟨j, h1, _, h3⟩) <;> omega
     ·intro h
      by_cases hx : x < st.nid
      ·exact .inl hx
      ·exact .inr ⟨x - st.nid, by omega, hall _ (by omega), by omega⟩
    have e2 : UH up (fun i => listed.getD i false) H l.length = UH up (fun _ => true) H l.length := UH_congr fun j hj _ => hall j hj
    have e3 : DH dr (fun i => listed.getD i false) (UH up (fun _ => true) H l.length) l.length = DH dr (fun _ => true) (UH up (fun _ => true) H l.length) l.length := DH_congr fun j hj _ => hall j hj
    rw [e1, e2, e3] at hsat hrep hdef
    have hs2 := hsat.fewer (hp' := st1.hp) fun x y hy _ => by
     rw [hh1] at hy
     obtain ⟨q1, q2⟩ := hsubT (Nat.le_refl _) hy
     rw [DH_same fun j hj _ => q2 j hj]; exact q1
    have hdef2 := hdef.step0 hs2 (fun i hi => Nat.lt_of_lt_of_le hi (Nat.le_trans h0.lo (by omega)))
    rw [hn1]
    refine ⟨r, hs2.sat, fun x y hy => ?_, fun t => ?_, hsize, Nat.le_trans h0.lo (by omega), hdef2.out, hdef2.rfix, hdef2.defers⟩
    ·rw [hh1] at hy
     obtain ⟨z, hz⟩ := UH_keys (hsubT (Nat.le_refl _) hy).1
     rcases hHk _ _ hz with h | ⟨j, hj, _, e⟩ <;> omega
    ·have := hs2.rep (hrep t)
     rw [hF1]
     have e2 : FS (nth (dsts l)) res (fun i => listed.getD i false) (look st.fr) l.length t = FS (nth (dsts l)) res (fun _ => true) (look st.fr) l.length t :=
      FS_at (Nat.le_refl _) fun j hj _ => by simp only [hj, iff_true]; exact hall j hj
     rw [← e2]; exact this
  | succ fuel ih =>
   intro listed a w hsz hcl hcnt hmid
   obtain ⟨x, hx⟩ : ∃ x, x < l.length ∧ listed.getD x false = false := by
    refine Classical.byContradiction fun hno => ?_
    have hall : ∀ i, i < l.length → listed.getD i false = true := fun i hi => by
     cases hv : listed.getD i false with
     | true => rfl
     | false => exact (hno ⟨i, hi, hv⟩).elim
    have hc := cnt_tail (S := fun i => listed.getD i false) hall (fun j hj => by simp only [Array.getD_eq_getD_getElem?]; rw [Array.getElem?_eq_none (by omega)]; rfl) (Nat.le_refl l.length)
    rw [hc] at hcnt
    omega
   refine ⟨fun h => ?_, fun i hi => ?_⟩
   ·obtain ⟨y, _, hr⟩ := hleast listed hsz x (by omega) hx.2
    rw [h] at hr; cases hr
   ·obtain ⟨hil, hif, o, ho, hie⟩ := hready listed i hsz hi
    have hcl' := hclosed _ i hcl ⟨o, ho, hie⟩
    have hlook : ∀ t, t ∈ seen (dsts l) o → FS (nth (dsts l)) res (fun i => listed.getD i false) (look st.fr) l.length t = FS (nth (dsts l)) res (fun _ => true) (look st.fr) i t := by
     intro t ht
     refine FS_at (by omega) fun j hj hdj => ?_
     obtain ⟨oj, hoj⟩ : ∃ oj, l[j]? = some oj := ⟨l[j], by simp [show j < l.length by omega]⟩
     constructor
     ·intro hS
      refine Classical.byContradiction fun hge => ?_
      by_cases e : j = i
      ·subst e
       rw [hif] at hS; cases hS
      ·rcases apartOk_spec hapart ho hoj (by omega) with hb | ⟨_, hb⟩
       ·have := masks_closed hcl hb hS
        rw [hif] at this; cases this
       ·exact hb t hdj ht
     ·intro hlt
      rcases apartOk_spec hapart hoj ho hlt with hb | ⟨hb, _⟩
      ·have := masks_closed hcl' hb (by simp)
       simp only [Bool.or_eq_true, decide_eq_true_eq] at this
       exact this.resolve_right (by omega)
      ·exact (hb t hdj ht).elim
    have hchg : (isUpd o.op = true ∨ isApp o.op = true) → ∀ j, j < l.length → up j ≠ none → (listed.getD j false = true ↔ j < i) := by
     intro hro j hj hu
     obtain ⟨oj, hoj, huj⟩ := hupd j hj hu
     constructor
     ·intro hS
      refine Classical.byContradiction fun hge => ?_
      by_cases e : j = i
      ·subst e; rw [hif] at hS; cases hS
      ·have hord : (masks [] l).getD j 0 |>.testBit i := by
        rcases hro with hro | hro
        ·rcases pairOk_spec hpair ho hoj (by omega) with hb | ⟨hb1, hb2, _⟩ | ⟨_, _, _, _, _, e1, _⟩
         ·exact hb
         ·exact (hb1 ⟨hro, huj⟩).elim
         ·rw [e1] at hro; cases hro
        ·rcases dropsOk_spec hdrops ho hoj (by omega) with hb | hb | ⟨hb, _⟩
         ·exact hb
         ·exact (hb.2 ⟨hro, huj⟩).elim
         ·rw [app_noUpd hb] at huj; cases huj
       have := masks_closed hcl hord hS
       rw [hif] at this; cases this
     ·intro hlt
      have hord : (masks [] l).getD i 0 |>.testBit j := by
       rcases hro with hro | hro
       ·rcases pairOk_spec hpair hoj ho hlt with hb | ⟨hb1, _, hb3⟩ | ⟨_, _, _, _, _, e1, _⟩
        ·exact hb
        ·exact (hb1 ⟨huj, hro⟩).elim
        ·rw [e1] at huj; cases huj
       ·rcases dropsOk_spec hdrops hoj ho hlt with hb | ⟨hb, _⟩ | ⟨_, hb, _⟩
        ·exact hb
        ·rw [hro] at hb; cases hb
        ·rw [huj] at hb; cases hb
      have := masks_closed hcl' hord (by simp)
      simp only [Bool.or_eq_true, decide_eq_true_eq] at this
      exact this.resolve_right (by omega)
    have hchg1 : reads o.op = true → ∀ X, (∀ ty a, o.op = .load ty (.tmp a) → addrBlk (FS (nth (dsts l)) res (fun _ => true) (look st.fr) i a) = some X) → ∀ j, j < l.length → ∀ b, up j = some (X, b) → (listed.getD j false = true ↔ j < i) := by
     intro hro X hX j hj b hu
     obtain ⟨oj, hoj, huj⟩ := hupd j hj (by rw [hu]; simp)
     constructor
     ·intro hS
      refine Classical.byContradiction fun hge => ?_
      by_cases e : j = i
      ·subst e; rw [hif] at hS; cases hS
      ·rcases pairOk_spec hpair ho hoj (by omega) with hb | ⟨hb1, hb2, _⟩ | ⟨t, a, t', c, y, e1, e2, hmem, hn1, hn2⟩
       ·have := masks_closed hcl hb hS
        rw [hif] at this; cases this
       ·exact hb2 ⟨hro, huj⟩
       ·have h1 := hX t a e1
        have h2 : addrBlk (FS (nth (dsts l)) res (fun _ => true) (look st.fr) j c) = some X := by
         have hat := hops j oj hoj
         rw [hu] at hat
         generalize res j = svj at hat
         generalize nb j = nbj at hat
         generalize dr j = drj at hat
         cases hat with
         | upd obl t b hg hst hobl =>
          rw [e2] at hst
          exact stepR_store_blk hst
        have h3 := hfar a c hmem
        rw [hF1, FS_last (i := i) (by omega) (fun k hk hik => noneFrom_spec hn1 (by omega) hik), FS_last (i := j) (t := c) (by omega) (fun k hk hik => noneFrom_spec hn2 (by omega) hik)] at h3
        unfold ApartS at h3
        rw [sBlk_of h1, sBlk_of h2] at h3
        exact h3 rfl
     ·intro hlt
      rcases pairOk_spec hpair hoj ho hlt with hb | ⟨hb1, _, hb3⟩ | ⟨_, _, _, _, _, e1, _⟩
      ·have := masks_closed hcl' hb (by simp)
       simp only [Bool.or_eq_true, decide_eq_true_eq] at this
       exact this.resolve_right (by omega)
      ·exact (hb3 ⟨huj, hro⟩).elim
      ·rw [e1] at huj; cases huj
    have hdrp : ∀ j, j < l.length → ∀ X, dr j = some X → ∃ oj s x n k, l[j]? = some oj ∧ appTmps oj.op = some (s, x) ∧ FS (nth (dsts l)) res (fun _ => true) (look st.fr) j s = .vec X n k := fun j hj X hd => by
     obtain ⟨oj, hoj⟩ : ∃ oj, l[j]? = some oj := ⟨l[j], by simp [hj]⟩
     obtain ⟨s, x, n, k, h1, h2, _⟩ := (runG_up (hops j oj hoj)).2.2 X hd
     exact ⟨oj, s, x, n, k, hoj, h1, h2⟩
    have hstay : ∀ X y, blk (TG st.nid nb up dr st.hp i) X = some y → (∀ j oj s x n k, i < j → l[j]? = some oj → appTmps oj.op = some (s, x) → FS (nth (dsts l)) res (fun _ => true) (look st.fr) j s = .vec X n k → DropP far (dsts l) i j o oj → False) → ∀ j, j < l.length → listed.getD j false = true → dr j ≠ some X := by
     intro X y hX hno j hj hS hd
     have hji : j ≠ i := fun e => by subst e; rw [hif] at hS; cases hS
     by_cases hlt : j < i
     ·exact (hsubT (by omega) hX).2 j hlt hd
     ·obtain ⟨oj, s, x, n, k, hoj, ha, hv⟩ := hdrp j hj X hd
      rcases dropsOk_spec hdrops ho hoj (by omega) with hb | hb
      ·have := masks_closed hcl hb hS
       rw [hif] at this; cases this
      ·exact hno j oj s x n k (by omega) hoj ha hv hb
    have hfarS : ∀ j a c X n k, i < j → j < l.length → FarT far (dsts l) i j a c → sBlk (FS (nth (dsts l)) res (fun _ => true) (look st.fr) i a) = some X → FS (nth (dsts l)) res (fun _ => true) (look st.fr) j c = .vec X n k → False := by
     intro j a c X n k hij hj ⟨hmem, hn1, hn2⟩ h1 h2
     have h3 := hfar a c hmem
     rw [hF1, FS_last (i := i) (by omega) (fun k hk hik => noneFrom_spec hn1 (by omega) hik), FS_last (i := j) (t := c) (by omega) (fun k hk hik => noneFrom_spec hn2 (by omega) hik)] at h3
     unfold ApartS at h3
     rw [h1, h2] at h3
     exact h3 rfl
    have hmemU : isUpd o.op = true → ∀ id x, blk (TG st.nid nb up dr st.hp i) id = some x → blk (DH dr (fun i => listed.getD i false) (UH up (fun i => listed.getD i false) H l.length) l.length) id = some x := by
     intro hro id x hx
     rw [DH_same (hstay id x hx fun j oj s y n k hij hoj ha hv hd => by
      rcases hd with ⟨e, _⟩ | ⟨_, e, _⟩
      ·rw [appTmps_isApp ha] at e; cases e
      ·rw [hro] at e; cases e), UH_at (i := i) (by omega) (hchg (.inl hro))]
     exact (hsubT (by omega) hx).1
    have hmemA : ∀ s x, appTmps o.op = some (s, x) → ∀ id y, (sBlk (FS (nth (dsts l)) res (fun _ => true) (look st.fr) i s) = some id ∨ sBlk (FS (nth (dsts l)) res (fun _ => true) (look st.fr) i x) = some id) → blk (TG st.nid nb up dr st.hp i) id = some y → blk (DH dr (fun i => listed.getD i false) (UH up (fun i => listed.getD i false) H l.length) l.length) id = some y := by
     intro s x hsx id y hid hy
     rw [DH_same (hstay id y hy fun j oj s2 y2 n k hij hoj ha hv hd => by
      have hj := (List.getElem?_eq_some_iff.1 hoj).1
      rcases hd with ⟨e, _⟩ | ⟨_, _, s3, x3, ha3, hd⟩
      ·rw [appTmps_isApp ha] at e; cases e
      ·rw [ha] at ha3; cases ha3
       rcases hd with ⟨t, a, e, _⟩ | ⟨s', x', e, f1, f2⟩ | ⟨_, e⟩
       ·rw [e] at hsx; cases hsx
       ·rw [hsx] at e; cases e
        rcases hid with hid | hid
        ·exact hfarS j _ _ id n k hij hj f1 hid hv
        ·exact hfarS j _ _ id n k hij hj f2 hid hv
       ·rw [appTmps_isApp hsx] at e; cases e), UH_at (i := i) (by omega) (hchg (.inr (appTmps_isApp hsx)))]
     exact (hsubT (by omega) hy).1
    have hmem1 : reads o.op = true → ∀ X x, (∀ ty a, o.op = .load ty (.tmp a) → addrBlk (FS (nth (dsts l)) res (fun _ => true) (look st.fr) i a) = some X) → blk (TG st.nid nb up dr st.hp i) X = some x → blk (DH dr (fun i => listed.getD i false) (UH up (fun i => listed.getD i false) H l.length) l.length) X = some x := by
     intro hro X x hX hx
     rw [DH_same (hstay X x hx fun j oj s2 y2 n k hij hoj ha hv hd => by
      have hj := (List.getElem?_eq_some_iff.1 hoj).1
      rcases hd with ⟨e, _⟩ | ⟨_, _, s3, x3, ha3, hd⟩
      ·rw [appTmps_isApp ha] at e; cases e
      ·rw [ha] at ha3; cases ha3
       rcases hd with ⟨t, a, e, f1⟩ | ⟨s', x', e, f1, f2⟩ | ⟨e, _⟩
       ·exact hfarS j _ _ X n k hij hj f1 (sBlk_of (hX t a e)) hv
       ·rw [app_noReads (appTmps_isApp e)] at hro; cases hro
       ·rw [hro] at e; cases e), UH_at1 (i := i) (by omega) (hchg1 hro X hX)]
     exact (hsubT (by omega) hx).1
    have hat := hops i o ho
    obtain ⟨hupN, hdrN, r, hsat, hrep, hsize, hdef⟩ := hmid
    have hdsti := hdst i o ho
    have hS : ∀ x, (listed.setIfInBounds i true).getD x false = (listed.getD x false || decide (x = i)) := fun x => getD_set (by omega)
    have hNS : ∀ x, NS st.nid l.length (fun i => listed.getD i false) x → NS st.nid l.length (fun x => (listed.setIfInBounds i true).getD x false) x := fun x hx => by
     rw [← NS_set hS hil]; exact .inl hx
    have hfresh : ¬ NS st.nid l.length (fun i => listed.getD i false) (st.nid + i) := by
     rintro (h | ⟨j, h1, h2, h3⟩)
     ·omega
     ·have : j = i := by omega
      subst this
      dsimp only at h2
      rw [hif] at h2; cases h2
    have hlater : ∀ t, nth (dsts l) i = some t → ∀ j, j < l.length → i < j → nth (dsts l) j = some t → listed.getD j false = false := by
     intro t hdi j hj hij hdj
     obtain ⟨oj, hoj⟩ : ∃ oj, l[j]? = some oj := ⟨l[j], by simp [show j < l.length by omega]⟩
     cases hv : listed.getD j false with
     | false => rfl
     | true =>
      rcases apartOk_spec hapart ho hoj hij with hb | ⟨_, hb⟩
      ·have := masks_closed hcl hb hv
       rw [hif] at this; cases this
      ·refine (hb t hdj ?_).elim
       simp only [seen, List.mem_append]
       rw [hdsti] at hdi
       simp [hdi]
    have next : ∀ (v : Value) (r' : Nat → Option Nat) (w' : World), (∀ t b, up i = some (t, b) → NS st.nid l.length (fun i => listed.getD i false) t) → (∀ t, dr i = some t → NS st.nid l.length (fun i => listed.getD i false) t) →
      Step base okc r (NS st.nid l.length fun i => listed.getD i false) (DH dr (fun i => listed.getD i false) (UH up (fun i => listed.getD i false) H l.length) l.length) w r' (NS st.nid l.length fun x => (listed.setIfInBounds i true).getD x false) (DH dr (fun x => (listed.setIfInBounds i true).getD x false) (UH up (fun x => (listed.setIfInBounds i true).getD x false) H l.length) l.length) w' →
      Rep r' (NS st.nid l.length fun x => (listed.setIfInBounds i true).getD x false) (Gd base okc r' (NS st.nid l.length fun x => (listed.setIfInBounds i true).getD x false) (DH dr (fun x => (listed.setIfInBounds i true).getD x false) (UH up (fun x => (listed.setIfInBounds i true).getD x false) H l.length) l.length) w') w' (res i) v →
      wpAnyIn (FR ro) 0 P .any ops Q fuel (listed.setIfInBounds i true) (a.put o.dst v) w' := by
     intro v r' w' hui hdi hs hv
     refine ih _ _ _ (by simpa using hsz) ?_ ?_ ?_
     ·have : (fun x => (listed.setIfInBounds i true).getD x false) = fun x => listed.getD x false || decide (x = i) := funext hS
      rw [this]; exact hcl'
     ·have := (cnt_set (S := fun i => listed.getD i false) (S' := fun x => (listed.setIfInBounds i true).getD x false) hS hif (n := l.length)).2 hil
      omega
     ·rw [← hdsti]
      refine mid3_put hS hil hlater hrep hsize hdef h0.lo (hdin i) (fun j hj hSj t b hu => ?_) (fun j hj hSj t hu => ?_) hs hv
      ·rw [hS] at hSj
       simp only [Bool.or_eq_true, decide_eq_true_eq] at hSj
       rcases hSj with hSj | rfl
       ·exact hNS _ (hupN j hj hSj t b hu)
       ·exact hNS _ (hui t b hu)
      ·rw [hS] at hSj
       simp only [Bool.or_eq_true, decide_eq_true_eq] at hSj
       rcases hSj with hSj | rfl
       ·exact hNS _ (hdrN j hj hSj t hu)
       ·exact hNS _ (hdi t hu)
    have hsame : up i = none → dr i = none → DH dr (fun x => (listed.setIfInBounds i true).getD x false) (UH up (fun x => (listed.setIfInBounds i true).getD x false) H l.length) l.length = DH dr (fun i => listed.getD i false) (UH up (fun i => listed.getD i false) H l.length) l.length := fun hu hd => by
     rw [UH_same hS hu]
     exact DH_congr fun j hj hj' => by
      rw [hS]
      have : j ≠ i := fun e => hj' (e ▸ hd)
      simp [this]
    have hnokey : nb i = none → ∀ x y (S T : Nat → Bool), blk (DH dr T (UH up S H l.length) l.length) x = some y → NS st.nid l.length (fun x => (listed.setIfInBounds i true).getD x false) x → NS st.nid l.length (fun i => listed.getD i false) x := by
     intro hnb x y S T hy hx
     rw [← NS_set hS hil] at hx
     rcases hx with hx | hx
     ·exact hx
     ·subst hx
      obtain ⟨z, hz⟩ := UH_keys (DH_back hy).1
      rcases hHk _ _ hz with h | ⟨j, _, hj, e⟩
      ·omega
      ·have : j = i := by omega
       subst this
       rw [hnb] at hj; cases hj
    have hmore : nb i = none → up i = none → dr i = none → Step base okc r (NS st.nid l.length fun i => listed.getD i false) (DH dr (fun i => listed.getD i false) (UH up (fun i => listed.getD i false) H l.length) l.length) w r (NS st.nid l.length fun x => (listed.setIfInBounds i true).getD x false) (DH dr (fun x => (listed.setIfInBounds i true).getD x false) (UH up (fun x => (listed.setIfInBounds i true).getD x false) H l.length) l.length) w := by
     intro hnb hu hd
     rw [hsame hu hd]
     exact hsat.more hNS fun x y hy hx => hnokey hnb x y _ _ hy hx
    have hguard : ∀ b, gval (dsts l) o.guard (FS (nth (dsts l)) res (fun _ => true) (look st.fr) i) = some b → Region.wanted o (yielded ops a.tmps) = b := by
     intro b hg
     cases hog : o.guard with
     | none => rw [hog] at hg; simp only [gval, Option.some.injEq] at hg; subst hg; simp [Region.wanted, hog]
     | some gw =>
      obtain ⟨j, want⟩ := gw
      rw [hog] at hg
      simp only [gval] at hg
      cases ht : nth (dsts l) j with
      | none => simp [ht] at hg
      | some t =>
       have hy := yielded_eq ops a j t (by rw [hl]; exact ht)
       have htn : t ∈ seen (dsts l) o := by simp [seen, gTmps, hog, ht]
       have hrt := hrep t
       rw [hlook t htn] at hrt
       simp only [ht] at hg
       cases hv : FS (nth (dsts l)) res (fun _ => true) (look st.fr) i t with
       | val u =>
        rw [hv] at hg hrt
        have hu : a.tmps.getD t undef = u := by generalize a.tmps.getD t undef = z at hrt; cases hrt; rfl
        simp only [Array.getD_eq_getD_getElem?] at hu
        cases u with
        | bool c =>
         have : yielded ops a.tmps j = some c := by
          rw [hy]
          cases hz : a.tmps[t]? with
          | none => rw [hz] at hu; simp [undef] at hu
          | some z => rw [hz] at hu; simp at hu; rw [hu]
         simp only [Option.some.injEq] at hg
         subst hg
         simp only [Region.wanted, hog, this]
         cases c <;> cases want <;> rfl
        | tuple vs =>
         have : yielded ops a.tmps j = none := by
          rw [hy]
          cases hz : a.tmps[t]? with
          | none => rfl
          | some z => rw [hz] at hu; simp at hu; rw [hu]
         simp only [Option.some.injEq] at hg
         subst hg
         simp [Region.wanted, hog, this]
        | _ => simp at hg
       | _ => rw [hv] at hg; simp at hg
    have henv : ∀ x, x ∈ o.op.operands → Rep r (NS st.nid l.length fun i => listed.getD i false) (Gd base okc r (NS st.nid l.length fun i => listed.getD i false) (DH dr (fun i => listed.getD i false) (UH up (fun i => listed.getD i false) H l.length) l.length) w) w (env (FS (nth (dsts l)) res (fun _ => true) (look st.fr) i) x) (a.eval x) := fun x hx => rep_env x fun t ht => by
     subst ht
     rw [← hlook t (by
      simp only [seen, List.mem_append]
      exact .inl (List.mem_filterMap.2 ⟨.tmp t, by simpa using hx, rfl⟩))]
     exact hrep t
    unfold wpOpIn
    simp only [hget, ho]
    generalize hsv : res i = sv at hat
    generalize hnbi : nb i = nbi at hat
    generalize hupi : up i = upi at hat
    generalize hdri : dr i = dri at hat
    cases hat with
    | skip hg =>
     rw [if_neg (by rw [hguard _ hg]; simp)]
     exact ⟨fun _ _ => trivial, next undef r w (fun t b hu => by rw [hupi] at hu; cases hu) (fun t hd => by rw [hdri] at hd; cases hd) (hmore hnbi hupi hdri) (by rw [hsv]; exact .val _)⟩
    | upd obl t b hg hst hobl =>
     rw [if_pos (hguard _ hg)]
     have hu := stepR_upd hst
     have hnd : ∀ c, o.op ≠ .defer c := fun c e => by rw [e] at hu; cases hu
     have hst' : stepR P (FS (nth (dsts l)) res (fun _ => true) (look st.fr) i) (DH dr (fun i => listed.getD i false) (UH up (fun i => listed.getD i false) H l.length) l.length) o.op = .upd obl t b := by
      rw [stepR_mono_upd hu (hmemU hu) (by rw [hst]; simp), hst]
     refine wpIn_of_wp hnd (step_ok hsat (fr := FS (nth (dsts l)) res (fun _ => true) (look st.fr) i) (id := st.nid + i) (hp' := DH dr (fun i => listed.getD i false) (UH up (fun i => listed.getD i false) H l.length) l.length) henv ?_)
     rw [hst']
     refine ⟨hobl, fun w' hs => ?_⟩
     have hui : ∀ t' b', up i = some (t', b') → NS st.nid l.length (fun i => listed.getD i false) t' := fun t' b' e => by
      rw [hupi] at e; cases e
      exact upd_N hst' henv
     refine next undef r w' hui (fun t hd => by rw [hdri] at hd; cases hd) ?_ (by rw [hsv]; exact .val _)
     have eU := UH_set (up := up) (H := H) (n := l.length) hS hil hupi (hchg (.inl hu))
     have hb2 : ∀ x y, blk (DH dr (fun x => (listed.setIfInBounds i true).getD x false) (UH up (fun x => (listed.setIfInBounds i true).getD x false) H l.length) l.length) x = some y → blk (setBlk (DH dr (fun i => listed.getD i false) (UH up (fun i => listed.getD i false) H l.length) l.length) t b) x = some y := fun x y hy => by
      obtain ⟨h1, h2⟩ := DH_back hy
      rw [eU, blk_setBlk] at h1
      have eD := DH_same (dr := dr) (S := fun i => listed.getD i false) (hp := UH up (fun i => listed.getD i false) H l.length) (x := x) (m := l.length) fun j hj hSj => h2 j hj (by rw [hS]; simp [hSj])
      rw [blk_setBlk]
      by_cases e : x = t
      ·subst e
       rw [if_pos rfl] at h1 ⊢
       rw [eD]; exact h1
      ·rw [if_neg e] at h1 ⊢
       rw [eD]; exact h1
     refine hs.trans ((hs.sat.more hNS fun x y hy hx => ?_).trans ?_)
     ·rw [blk_setBlk] at hy
      split at hy
      ·rename_i e
       subst e
       exact hui _ b hupi
      ·exact hnokey hnbi x y _ _ hy hx
     ·exact Sat.fewer (hs.sat.more hNS fun x y hy hx => by
       rw [blk_setBlk] at hy
       split at hy
       ·rename_i e
        subst e
        exact hui _ b hupi
       ·exact hnokey hnbi x y _ _ hy hx).sat fun x y hy _ => hb2 x y hy
    | run sv nbi hg hca hrun =>
     rw [if_pos (hguard _ hg)]
     have hnd : ∀ c, o.op ≠ .defer c := fun c e => by rw [e] at hca; cases hca
     have hui : ∀ t b, up i = some (t, b) → NS st.nid l.length (fun i => listed.getD i false) t := fun t b hu => by rw [hupi] at hu; cases hu
     have hdi : ∀ t, dr i = some t → NS st.nid l.length (fun i => listed.getD i false) t := fun t hu => by rw [hdri] at hu; cases hu
     have hstep : stepR P (FS (nth (dsts l)) res (fun _ => true) (look st.fr) i) (TG st.nid nb up dr st.hp i) o.op ≠ .bad →
       stepR P (FS (nth (dsts l)) res (fun _ => true) (look st.fr) i) (DH dr (fun i => listed.getD i false) (UH up (fun i => listed.getD i false) H l.length) l.length) o.op = stepR P (FS (nth (dsts l)) res (fun _ => true) (look st.fr) i) (TG st.nid nb up dr st.hp i) o.op := fun hne => by
      cases hr : reads o.op with
      | true =>
       by_cases hld : ∃ ty x, o.op = .load ty x
       ·obtain ⟨ty, x, e⟩ := hld
        rw [e] at hne ⊢
        refine stepR_load_one (fun id y hid hy => hmem1 hr id y (fun ty' a e' => ?_) hy) hne
        rw [e] at e'
        cases e'
        exact hid
       ·exact stepR_mono hca (fun id y hy => hmem1 hr id y (fun ty a e => (hld ⟨ty, _, e⟩).elim) hy) hne
      | false => exact stepR_blind _ hca hr
     have hnew : ∀ b, nb i = some b → blk (DH dr (fun i => listed.getD i false) (UH up (fun i => listed.getD i false) H l.length) l.length) (st.nid + i) = some b := fun b hb => by
      rw [DH_same (fun j hj hSj hd => hfresh (hdrN j hj hSj _ hd)), UH_other (x := st.nid + i) (fun j hj hSj t c hjc (e : t = st.nid + i) => hfresh (by rw [← e]; exact hupN j hj hSj t c hjc)), ← hH]
      exact NH_new hb hil
     refine wpIn_of_wp hnd (step_ok hsat (fr := FS (nth (dsts l)) res (fun _ => true) (look st.fr) i) (id := st.nid + i) (hp' := DH dr (fun i => listed.getD i false) (UH up (fun i => listed.getD i false) H l.length) l.length) henv ?_)
     cases hrun with
     | pure obl _ hst hobl =>
      rw [hstep (by rw [hst]; simp), hst]
      refine ⟨hobl, fun v hv => next v r w hui hdi (hmore hnbi hupi hdri) ?_⟩
      rw [hsv]; exact (hmore hnbi hupi hdri).rep hv
     | ex obl _ hst hobl =>
      rw [hstep (by rw [hst]; simp), hst]
      refine ⟨sv, hobl, fun v hv => next v r w hui hdi (hmore hnbi hupi hdri) ?_⟩
      rw [hsv]; exact (hmore hnbi hupi hdri).rep hv
     | new obl b mk hst hobl =>
      rw [hstep (by rw [hst]; simp), hst]
      refine ⟨hobl, hfresh, hnew b hnbi, fun _ _ => rfl, fun v w' r' hs hv => ?_⟩
      rw [NS_set hS hil] at hs hv
      refine next v r' w' hui hdi (by rw [hsame hupi hdri]; exact hs) ?_
      rw [hsv, hsame hupi hdri]; exact hv
     | call f args pats _ hst hc hs =>
      have hr : reads o.op = true := by
       obtain ⟨x, xs, ts, first, caps, e, _⟩ := stepR_call hst
       rw [e]; rfl
      have hm' : ∀ id y, blk (TG st.nid nb up dr st.hp i) id = some y → blk (DH dr (fun i => listed.getD i false) (UH up (fun i => listed.getD i false) H l.length) l.length) id = some y := fun id y hy => hmem1 hr id y (fun ty a e => by
       obtain ⟨x, xs, ts, first, caps, e', _⟩ := stepR_call hst
       rw [e'] at e; cases e) hy
      rw [hstep (by rw [hst]; simp), hst]
      refine .inl ⟨pats, sv, hc, hs.imp (fun h => ⟨subL_mono hm' _ _ h.1, h.2⟩) (fun h => h), fun v w' hst' hv => ?_⟩
      have hgrow := hst'.sat.more hNS fun x y hy hx => hnokey hnbi x y _ _ hy hx
      refine next v r w' hui hdi ?_ ?_
      ·rw [hsame hupi hdri]; exact hst'.trans hgrow
      ·rw [hsame hupi hdri, hsv]; exact hgrow.rep hv
     | callN f args pats b res' hst hc hs =>
      have hr : reads o.op = true := by
       obtain ⟨x, xs, ts, first, caps, e, _⟩ := stepR_call hst
       rw [e]; rfl
      have hm' : ∀ id y, blk (TG st.nid nb up dr st.hp i) id = some y → blk (DH dr (fun i => listed.getD i false) (UH up (fun i => listed.getD i false) H l.length) l.length) id = some y := fun id y hy => hmem1 hr id y (fun ty a e => by
       obtain ⟨x, xs, ts, first, caps, e', _⟩ := stepR_call hst
       rw [e'] at e; cases e) hy
      rw [hstep (by rw [hst]; simp), hst]
      refine .inr ⟨pats, b, res', hc, hs.mono hm', hfresh, _, hnew b hnbi, fun _ _ => rfl, fun v w' r' hs hv => ?_⟩
      rw [NS_set hS hil] at hs hv
      refine next v r' w' hui hdi (by rw [hsame hupi hdri]; exact hs) ?_
      rw [hsv, hsame hupi hdri]; exact hv
    | newA obl b mk hg ha hst hobl =>
     rw [if_pos (hguard _ hg)]
     obtain ⟨⟨s, x⟩, hsx⟩ := Option.isSome_iff_exists.1 ha
     have hia := appTmps_isApp hsx
     have hnd : ∀ c, o.op ≠ .defer c := fun c e => by rw [e] at hia; cases hia
     have hui : ∀ t b, up i = some (t, b) → NS st.nid l.length (fun i => listed.getD i false) t := fun t b hu => by rw [hupi] at hu; cases hu
     have hdi : ∀ t, dr i = some t → NS st.nid l.length (fun i => listed.getD i false) t := fun t hu => by rw [hdri] at hu; cases hu
     have hnew : ∀ b, nb i = some b → blk (DH dr (fun i => listed.getD i false) (UH up (fun i => listed.getD i false) H l.length) l.length) (st.nid + i) = some b := fun b hb => by
      rw [DH_same (fun j hj hSj hd => hfresh (hdrN j hj hSj _ hd)), UH_other (x := st.nid + i) (fun j hj hSj t c hjc (e : t = st.nid + i) => hfresh (by rw [← e]; exact hupN j hj hSj t c hjc)), ← hH]
      exact NH_new hb hil
     refine wpIn_of_wp hnd (step_ok hsat (fr := (FS (nth (dsts l)) res (fun _ => true) (look st.fr) i)) (id := st.nid + i) (hp' := DH dr (fun i => listed.getD i false) (UH up (fun i => listed.getD i false) H l.length) l.length) henv ?_)
     rw [stepR_app_one hsx (hmemA s x hsx) (by rw [hst]; simp), hst]
     refine ⟨hobl, hfresh, hnew b hnbi, fun _ _ => rfl, fun v w' r' hs hv => ?_⟩
     rw [NS_set hS hil] at hs hv
     refine next v r' w' hui hdi (by rw [hsame hupi hdri]; exact hs) ?_
     rw [hsv, hsame hupi hdri]; exact hv
    | grow obl old b mk hg ha hst hobl =>
     rw [if_pos (hguard _ hg)]
     obtain ⟨⟨s, x⟩, hsx⟩ := Option.isSome_iff_exists.1 ha
     have hia := appTmps_isApp hsx
     have hnd : ∀ c, o.op ≠ .defer c := fun c e => by rw [e] at hia; cases hia
     have hui : ∀ t b, up i = some (t, b) → NS st.nid l.length (fun i => listed.getD i false) t := fun t b hu => by rw [hupi] at hu; cases hu
     obtain ⟨⟨n', k', evec⟩, y0, hy0⟩ := stepR_grow hsx hst
     have hold : NS st.nid l.length (fun i => listed.getD i false) old := by
      obtain ⟨args, ts, eop, eargs⟩ := appTmps_form hsx
      have h1 := henv (.tmp s) (by
       rw [eop]
       have : Operand.tmp s ∈ args.toList := by rw [eargs]; simp
       simp only [Op.operands, Call.operands]
       simpa using this)
      have h2 : env (FS (nth (dsts l)) res (fun _ => true) (look st.fr) i) (.tmp s) = .vec old n' k' := evec
      rw [h2] at h1
      generalize a.eval (.tmp s) = u at h1
      cases h1 <;> assumption
     have hdi : ∀ t, dr i = some t → NS st.nid l.length (fun i => listed.getD i false) t := fun t hu => by
      rw [hdri] at hu; cases hu; exact hold
     have hnew : ∀ b, nb i = some b → blk (DH dr (fun i => listed.getD i false) (UH up (fun i => listed.getD i false) H l.length) l.length) (st.nid + i) = some b := fun b hb => by
      rw [DH_same (fun j hj hSj hd => hfresh (hdrN j hj hSj _ hd)), UH_other (x := st.nid + i) (fun j hj hSj t c hjc (e : t = st.nid + i) => hfresh (by rw [← e]; exact hupN j hj hSj t c hjc)), ← hH]
      exact NH_new hb hil
     refine wpIn_of_wp hnd (step_ok hsat (fr := (FS (nth (dsts l)) res (fun _ => true) (look st.fr) i)) (id := st.nid + i) (hp' := DH dr (fun i => listed.getD i false) (UH up (fun i => listed.getD i false) H l.length) l.length) henv ?_)
     rw [stepR_app_one hsx (hmemA s x hsx) (by rw [hst]; simp), hst]
     have hne : old ≠ st.nid + i := fun e => hfresh (by rw [← e]; exact hold)
     have eU : UH up (fun x => (listed.setIfInBounds i true).getD x false) H l.length = UH up (fun i => listed.getD i false) H l.length := UH_same hS hupi
     have hgo : ∀ j, j ≠ old → blk (DH dr (fun x => (listed.setIfInBounds i true).getD x false) (UH up (fun x => (listed.setIfInBounds i true).getD x false) H l.length) l.length) j = blk (DH dr (fun i => listed.getD i false) (UH up (fun i => listed.getD i false) H l.length) l.length) j := fun j hjo => by
      rw [eU]
      by_cases hd : ∃ j', j' < l.length ∧ listed.getD j' false = true ∧ dr j' = some j
      ·obtain ⟨j', h1, h2, h3⟩ := hd
       rw [DH_gone (S := fun x => (listed.setIfInBounds i true).getD x false) h1 (by rw [hS]; simp [h2]) h3, DH_gone (S := fun i => listed.getD i false) h1 h2 h3]
      ·rw [DH_same fun j' h1 h2 h3 => hd ⟨j', h1, h2, h3⟩, DH_same fun j' h1 h2 h3 => ?_]
       rw [hS] at h2
       simp only [Bool.or_eq_true, decide_eq_true_eq] at h2
       rcases h2 with h2 | rfl
       ·exact hd ⟨j', h1, h2, h3⟩
       ·rw [hdri] at h3; cases h3; exact hjo rfl
     refine ⟨hobl, hfresh, DH dr (fun x => (listed.setIfInBounds i true).getD x false) (UH up (fun x => (listed.setIfInBounds i true).getD x false) H l.length) l.length, (by rw [hgo _ (Ne.symm hne)]; exact hnew b hnbi), fun j _ hjo => hgo j hjo, DH_gone hil (by rw [hS]; simp) hdri, fun v w' r' hs hv => ?_⟩
     rw [NS_set hS hil] at hs hv
     refine next v r' w' hui hdi hs ?_
     rw [hsv]; exact hv
 refine wpIn_region_any hm ?_
 rw [hn]
 have hrep0 : ∀ i, (Array.replicate l.length false).getD i false = false := fun i => by simp only [Array.getD_eq_getD_getElem?, Array.getElem?_replicate]; split <;> rfl
 refine walk l.length (Array.replicate l.length false) a _ (by simp) ?_ ?_ ?_
 ·intro j o ho hS; simp only [hrep0] at hS; cases hS
 ·have key : ∀ n, cnt (fun i => (Array.replicate l.length false).getD i false) n = n := by
   intro n
   induction n with
   | zero => rfl
   | succ n ihn =>
    simp only [cnt, ihn]
    rw [if_neg (by rw [hrep0]; simp)]
  exact key _
 ·have hN : NS st.nid l.length (fun i => (Array.replicate l.length false).getD i false) = (· < st.nid) := by
   funext x
   simp only [NS, eq_iff_iff]
   constructor
   ·rintro (h | ⟨j, _, h2, _⟩)
    ·exact h
    ·rw [hrep0] at h2; cases h2
   ·exact .inl
  have hU : UH up (fun i => (Array.replicate l.length false).getD i false) H l.length = H := by
   rw [UH_skip (i := 0) (Nat.zero_le _) fun j _ _ _ => hrep0 j]; rfl
  have hD : DH dr (fun i => (Array.replicate l.length false).getD i false) H l.length = H := by
   have : ∀ m, DH dr (fun i => (Array.replicate l.length false).getD i false) H m = H := fun m => by
    induction m with
    | zero => rfl
    | succ m ih => simp only [DH]; rw [if_neg (by rw [hrep0]; simp)]; exact ih
   exact this _
  have hdrew : Below w.heap.size w { w with drawn := w.drawn + 1 } := ⟨rfl, rfl, rfl, Nat.le_refl _, fun _ _ => rfl⟩
  have hst := h0.sat.grow hdrew
  unfold Mid3
  rw [hN, hU, hD]
  have hs2 := hst.sat.fewer (hp' := H) fun x y hy hx => by
   rw [← hH] at hy
   rcases NH_keys hy with h | ⟨j, _, _, e⟩
   ·exact h
   ·omega
  refine ⟨fun j _ hS => absurd hS (by dsimp only; rw [hrep0]; simp), fun j _ hS => absurd hS (by dsimp only; rw [hrep0]; simp), r0, hs2.sat, fun t => ?_, h0.size, ((Ext.mk h0.out h0.rfix h0.defers).step0 hst (fun i hi => Nat.lt_of_lt_of_le hi h0.lo)).step0 hs2 (fun i hi => Nat.lt_of_lt_of_le hi h0.lo)⟩
  have e : FS (nth (dsts l)) res (fun i => (Array.replicate l.length false).getD i false) (look st.fr) l.length t = look st.fr t := by
   have := FS_at (dst := nth (dsts l)) (res := res) (S := fun i => (Array.replicate l.length false).getD i false) (F := look st.fr) (i := 0) (t := t) (Nat.zero_le l.length) (fun j hj _ => by rw [hrep0]; simp)
   exact this
  rw [e]
  exact hs2.rep (hst.rep (h0.fr t))
theorem growRegion (hm : P.follows .mixedOrders = true) {st : St} {K : Ex → St → Prop} {id : Nat} {ops : List Oper} (far : List (Nat × Nat)) (hok : drawOk3 far ops = true) {g : Tag K}
  (hk : opsVC P O False (dsts ops) ops 0 st fun st' => FarVS far st' (K .normal ⟨st'.fr, st'.hp, st'.nid + ops.length⟩)) : HandT P O id ops true st K g := by
 intro base okc ns outs a w ro Q hro hc hi hK
 simp only [codeOkF, Bool.and_eq_true] at hc
 obtain ⟨hd, -⟩ := hc
 refine draw_ok3 (far := far) hm (by simpa using hok) (by simpa using hd) hi (by simpa using hk) fun st' a' w' hk' hi' => ?_
 refine hK .normal _ a' w' hk' ?_
 obtain ⟨r, h⟩ := hi'
 exact ⟨r, by simpa using h.nid (st'.nid + ops.length)⟩
theorem farVS_nil (st : St) (X : Prop) : FarVS [] st X = X := rfl
theorem farVS_cons (a b : Nat) (l : List (Nat × Nat)) (fr : List (Nat × SV)) (hp : List (Nat × Blk)) (nid : Nat) (X : Prop) : FarVS ((a, b) :: l) ⟨fr, hp, nid⟩ X = (ApartS (look fr a) (look fr b) ∧ FarVS l ⟨fr, hp, nid⟩ X) := rfl
end
end Go.Sx
end
section
set_option linter.defProp false
set_option linter.unusedVariables false
set_option linter.unusedSimpArgs false
namespace Go.Sx
open Go.RowKit
def farL : List (Nat × List (Nat × Nat)) → Nat → List (Nat × Nat)
 | [], _ => []
 | (n, l) :: r, i => if i = n then l else farL r i
def farN : List (Nat × List (Nat × Nat)) → Nat → Bool
 | [], _ => true
 | (n, _) :: r, i => !decide (i = n) && farN r i
theorem farN_nil (i : Nat) : farN [] i = true := rfl
theorem farN_cons (n : Nat) (l : List (Nat × Nat)) (r : List (Nat × List (Nat × Nat))) (i : Nat) : farN ((n, l) :: r) i = (!decide (i = n) && farN r i) := rfl
theorem farL_none : ∀ {L : List (Nat × List (Nat × Nat))} {i : Nat}, farN L i = true → farL L i = []
 | [], _, _ => rfl
 | (n, l) :: r, i, h => by
  simp only [farN, Bool.and_eq_true, Bool.not_eq_true', decide_eq_false_iff_not] at h
  simp only [farL]
  rw [if_neg h.1]
  exact farL_none h.2
section
variable {P : Program} {fs : List Fr} {lo : Nat} {rnd : Bool}
theorem vc_regL_of {L : List (Nat × List (Nat × Nat))} {n x y : Nat} {l : List (Nat × Nat)} (e : farL L n = (x, y) :: l) (hxy : x ≠ y) (ops : List Oper) (d : Bool) (st : St) (K : Ex → St → Prop) : vc P ⟨fs, lo, rnd, farL L⟩ (.region n ops.toArray d) st K = opsVC P ⟨fs, lo, rnd, farL L⟩ (inlOk d ops = true) (dsts ops) ops 0 st (fun st' => FarVC ((x, y) :: l) st' (K .normal ⟨st'.fr, st'.hp, st'.nid + ops.length⟩)) := by
 show (if isHand (farL L n) = true then _ else opsVC P _ _ _ _ 0 st (fun st' => FarVC (farL L n) st' (K .normal ⟨st'.fr, st'.hp, st'.nid + ops.length⟩))) = _
 rw [e, if_neg (by simp [isHand, hxy])]
theorem vc_regH_of {L : List (Nat × List (Nat × Nat))} {n : Nat} (e : farL L n = [(0, 0)]) (ops : List Oper) (d : Bool) (st : St) (K : Ex → St → Prop) : vc P ⟨fs, lo, rnd, farL L⟩ (.region n ops.toArray d) st K = HandT P ⟨fs, lo, rnd, farL L⟩ n ops d st K .mk := by
 show (if isHand (farL L n) = true then RawVC P _ (.region n ops.toArray d) st K else _) = _
 rw [e, if_pos (by rfl)]; rfl
theorem vc_regLN {L : List (Nat × List (Nat × Nat))} (id : Nat) (ops : List Oper) (d : Bool) (st : St) (K : Ex → St → Prop) (h : farN L id = true) : vc P ⟨fs, lo, rnd, farL L⟩ (.region id ops.toArray d) st K = opsVC P ⟨fs, lo, rnd, farL L⟩ (inlOk d ops = true) (dsts ops) ops 0 st (fun st' => K .normal ⟨st'.fr, st'.hp, st'.nid + ops.length⟩) := by
 have e := farL_none h
 show (if isHand (farL L id) = true then _ else opsVC P _ _ _ _ 0 st (fun st' => FarVC (farL L id) st' (K .normal ⟨st'.fr, st'.hp, st'.nid + ops.length⟩))) = _
 rw [e]; rfl
theorem vc_regL1 {r : List (Nat × List (Nat × Nat))} {x y : Nat} {l : List (Nat × Nat)} (n : Nat) (ops : List Oper) (d : Bool) (st : St) (K : Ex → St → Prop) (hxy : x ≠ y) : vc P ⟨fs, lo, rnd, farL ((n, (x, y) :: l) :: r)⟩ (.region n ops.toArray d) st K = opsVC P ⟨fs, lo, rnd, farL ((n, (x, y) :: l) :: r)⟩ (inlOk d ops = true) (dsts ops) ops 0 st (fun st' => FarVC ((x, y) :: l) st' (K .normal ⟨st'.fr, st'.hp, st'.nid + ops.length⟩)) := vc_regL_of (by simp [farL]) hxy ops d st K
theorem vc_regL2 {r : List (Nat × List (Nat × Nat))} {a x y : Nat} {k l : List (Nat × Nat)} (n : Nat) (ops : List Oper) (d : Bool) (st : St) (K : Ex → St → Prop) (h : n ≠ a) (hxy : x ≠ y) : vc P ⟨fs, lo, rnd, farL ((a, k) :: (n, (x, y) :: l) :: r)⟩ (.region n ops.toArray d) st K = opsVC P ⟨fs, lo, rnd, farL ((a, k) :: (n, (x, y) :: l) :: r)⟩ (inlOk d ops = true) (dsts ops) ops 0 st (fun st' => FarVC ((x, y) :: l) st' (K .normal ⟨st'.fr, st'.hp, st'.nid + ops.length⟩)) := vc_regL_of (by simp [farL, h]) hxy ops d st K
theorem vc_regL3 {r : List (Nat × List (Nat × Nat))} {a b x y : Nat} {k j l : List (Nat × Nat)} (n : Nat) (ops : List Oper) (d : Bool) (st : St) (K : Ex → St → Prop) (h : n ≠ a) (h2 : n ≠ b) (hxy : x ≠ y) : vc P ⟨fs, lo, rnd, farL ((a, k) :: (b, j) :: (n, (x, y) :: l) :: r)⟩ (.region n ops.toArray d) st K = opsVC P ⟨fs, lo, rnd, farL ((a, k) :: (b, j) :: (n, (x, y) :: l) :: r)⟩ (inlOk d ops = true) (dsts ops) ops 0 st (fun st' => FarVC ((x, y) :: l) st' (K .normal ⟨st'.fr, st'.hp, st'.nid + ops.length⟩)) := vc_regL_of (by simp [farL, h, h2]) hxy ops d st K
theorem vc_regH1 {r : List (Nat × List (Nat × Nat))} (n : Nat) (ops : List Oper) (d : Bool) (st : St) (K : Ex → St → Prop) : vc P ⟨fs, lo, rnd, farL ((n, [(0, 0)]) :: r)⟩ (.region n ops.toArray d) st K = HandT P ⟨fs, lo, rnd, farL ((n, [(0, 0)]) :: r)⟩ n ops d st K .mk := vc_regH_of (by simp [farL]) ops d st K
theorem vc_regH2 {r : List (Nat × List (Nat × Nat))} {a : Nat} {k : List (Nat × Nat)} (n : Nat) (ops : List Oper) (d : Bool) (st : St) (K : Ex → St → Prop) (h : n ≠ a) : vc P ⟨fs, lo, rnd, farL ((a, k) :: (n, [(0, 0)]) :: r)⟩ (.region n ops.toArray d) st K = HandT P ⟨fs, lo, rnd, farL ((a, k) :: (n, [(0, 0)]) :: r)⟩ n ops d st K .mk := vc_regH_of (by simp [farL, h]) ops d st K
theorem vc_regH3 {r : List (Nat × List (Nat × Nat))} {a b : Nat} {k j : List (Nat × Nat)} (n : Nat) (ops : List Oper) (d : Bool) (st : St) (K : Ex → St → Prop) (h : n ≠ a) (h2 : n ≠ b) : vc P ⟨fs, lo, rnd, farL ((a, k) :: (b, j) :: (n, [(0, 0)]) :: r)⟩ (.region n ops.toArray d) st K = HandT P ⟨fs, lo, rnd, farL ((a, k) :: (b, j) :: (n, [(0, 0)]) :: r)⟩ n ops d st K .mk := vc_regH_of (by simp [farL, h, h2]) ops d st K
end
theorem sBlk_ptr (i o : Nat) : sBlk (.ptr i o) = some i := rfl
theorem sBlk_elt (i a b c : Nat) : sBlk (.elt i a b c) = some i := rfl
theorem sBlk_vec (i a b : Nat) : sBlk (.vec i a b) = some i := rfl
theorem sBlk_cut (i a b : Nat) : sBlk (.cut i a b) = some i := rfl
theorem sBlk_asl (i a b c : Nat) : sBlk (.asl i a b c) = some i := rfl
theorem sBlk_val (v : Value) : sBlk (.val v) = none := rfl
theorem sBlk_arr (o f : Bool) (n k : Nat) (row : Nat → Nat → SV) : sBlk (.arr o f n k row) = none := rfl
theorem sBlk_ref (o : Bool) (n : Nat) (row : Nat → SV) : sBlk (.ref o n row) = none := rfl
def apO : Option Nat → Option Nat → Prop
 | some i, some j => i ≠ j
 | _, _ => True
theorem apO_ss (i j : Nat) : apO (some i) (some j) = (i ≠ j) := rfl
theorem apO_n (x : Option Nat) : apO none x = True := by cases x <;> rfl
theorem apO_sn (x : Nat) : apO (some x) none = True := rfl
theorem apartS_eq (s s' : SV) : ApartS s s' = apO (sBlk s) (sBlk s') := by unfold ApartS apO; rfl
def RW :=
 And.intro @Go.Sx.vc_regLN <|
 And.intro @Go.Sx.vc_regL1 <|
 And.intro @Go.Sx.vc_regL2 <|
 And.intro @Go.Sx.vc_regL3 <|
 And.intro @Go.Sx.vc_regH1 <|
 And.intro @Go.Sx.vc_regH2 <|
 And.intro @Go.Sx.vc_regH3 <|
 And.intro @Go.Sx.farN_nil <|
 And.intro @Go.Sx.farN_cons <|
 And.intro @Go.Sx.farVS_nil <|
 And.intro @Go.Sx.farVS_cons <|
 And.intro @Go.Sx.apartS_eq <|
 And.intro @Go.Sx.sBlk_ptr <|
 And.intro @Go.Sx.sBlk_elt <|
 And.intro @Go.Sx.sBlk_vec <|
 And.intro @Go.Sx.sBlk_cut <|
 And.intro @Go.Sx.sBlk_asl <|
 And.intro @Go.Sx.sBlk_val <|
 And.intro @Go.Sx.sBlk_arr <|
 And.intro @Go.Sx.sBlk_ref <|
 And.intro @Go.Sx.apO_ss <|
 And.intro @Go.Sx.apO_n <|
 @Go.Sx.apO_sn
end Go.Sx
end
section
set_option linter.unusedVariables false
set_option linter.unusedSimpArgs false
set_option linter.defProp false
namespace Go.Sx
open Go.RowKit
section
variable {P : Program} {O : Ctx}
end
def Under (l : List (Nat × Blk)) (n : Nat) : Prop := ∀ k x, blk l k = some x → k < n
theorem Under.none {l : List (Nat × Blk)} {n : Nat} (h : Under l n) {k : Nat} (hk : n ≤ k) : blk l k = none := by
 cases hb : blk l k with
 | none => rfl
 | some x => have := h k x hb; omega
theorem Under.mono {l : List (Nat × Blk)} {n m : Nat} (h : Under l n) (hm : n ≤ m) : Under l m := fun k x hx => Nat.lt_of_lt_of_le (h k x hx) hm
theorem Under.cons {l : List (Nat × Blk)} {n i : Nat} {b : Blk} (h : Under l n) (hi : i < n) : Under ((i, b) :: l) n := fun k x hx => by
 simp only [blk] at hx
 split at hx
 ·omega
 ·exact h k x hx
theorem Under.nil {n : Nat} : Under [] n := fun k x hx => by simp [blk] at hx
theorem SubHp.cons {l l' : List (Nat × Blk)} {i : Nat} {b : Blk} (h : SubHp l l') : SubHp ((i, b) :: l) ((i, b) :: l') := fun k x hx => by
 simp only [blk] at hx ⊢
 split
 ·rename_i e; rw [if_pos e] at hx; exact hx
 ·rename_i e; rw [if_neg e] at hx; exact h k x hx
theorem SubHp.skip {l l' : List (Nat × Blk)} {i : Nat} {b : Blk} (hb : blk l' i = none) (h : SubHp l l') : SubHp ((i, b) :: l) l' := fun k x hx => by
 simp only [blk]
 split
 ·rename_i e; subst e; rw [hb] at hx; cases hx
 ·exact h k x hx
theorem SubHp.trans {a b c : List (Nat × Blk)} (h : SubHp a b) (h' : SubHp b c) : SubHp a c := fun k x hx => h k x (h' k x hx)
end Go.Sx
end
section
set_option linter.unusedVariables false
set_option linter.unusedSimpArgs false
set_option linter.defProp false
namespace Go.Sx
open Go.RowKit
section
variable {P : Program} {O : Ctx}
end
def hd0 : List (Nat × Nat) → Bool
 | [(0, 0)] => true
 | _ => false
def farHd : List (Nat × List (Nat × Nat)) → Nat → Bool
 | [], _ => false
 | (n, l) :: r, i => if i = n then hd0 l else farHd r i
theorem farHd_hand : ∀ {L : List (Nat × List (Nat × Nat))} {i : Nat}, farHd L i = true → farL L i = [(0, 0)]
 | [], _, h => by cases h
 | (n, l) :: r, i, h => by
  simp only [farHd] at h
  simp only [farL]
  split at h
  ·rename_i e
   rw [if_pos e]
   unfold hd0 at h
   split at h
   ·rfl
   ·cases h
  ·rename_i e
   rw [if_neg e]
   exact farHd_hand h
theorem vc_regLH {P : Program} {fs : List Fr} {lo : Nat} {rnd : Bool} {L : List (Nat × List (Nat × Nat))} (n : Nat) (ops : List Oper) (d : Bool) (st : St) (K : Ex → St → Prop) (h : farHd L n = true) : vc P ⟨fs, lo, rnd, farL L⟩ (.region n ops.toArray d) st K = HandT P ⟨fs, lo, rnd, farL L⟩ n ops d st K .mk := vc_regH_of (farHd_hand h) ops d st K
theorem farHd_nil (i : Nat) : farHd [] i = false := rfl
theorem farHd_cons (n : Nat) (l : List (Nat × Nat)) (r : List (Nat × List (Nat × Nat))) (i : Nat) : farHd ((n, l) :: r) i = if i = n then hd0 l else farHd r i := rfl
theorem hd0_h : hd0 [(0, 0)] = true := rfl
def RY :=
 And.intro @Go.Sx.vc_regLH <|
 And.intro @Go.Sx.farHd_nil <|
 And.intro @Go.Sx.farHd_cons <|
 And.intro @Go.Sx.hd0_h <|
 And.intro @Go.Sx.vc_regLN <|
 And.intro @Go.Sx.farN_nil <|
 And.intro @Go.Sx.farN_cons <|
 And.intro @Go.Sx.farVS_nil <|
 And.intro @Go.Sx.farVS_cons <|
 And.intro @Go.Sx.apartS_eq <|
 And.intro @Go.Sx.sBlk_ptr <|
 And.intro @Go.Sx.sBlk_elt <|
 And.intro @Go.Sx.sBlk_vec <|
 And.intro @Go.Sx.sBlk_cut <|
 And.intro @Go.Sx.sBlk_asl <|
 And.intro @Go.Sx.sBlk_val <|
 And.intro @Go.Sx.sBlk_arr <|
 And.intro @Go.Sx.sBlk_ref <|
 And.intro @Go.Sx.apO_ss <|
 And.intro @Go.Sx.apO_n <|
 @Go.Sx.apO_sn
end Go.Sx
end
