/- The proof engine. -/
import Derived.Test.YtbomildlhnllhaaEE
section
set_option linter.unusedVariables false
set_option linter.unusedSimpArgs false
namespace Go.Sx
open Go.RowKit
def sBlk : SV → Option Nat
  | .ptr id _ => some id
  | .elt id _ _ _ => some id
  | .vec id _ _ => some id
  | .cut id _ _ => some id
  | .asl id _ _ _ => some id
  | _ => none
def ApartS (s s' : SV) : Prop := match sBlk s, sBlk s' with
  | some i, some j => i ≠ j
  | _, _ => True
def FarVS : List (Nat × Nat) → St → Prop → Prop
  | [], _, X => X
  | (a, b) :: l, st, X => ApartS (look st.fr a) (look st.fr b) ∧ FarVS l st X
section
variable {P : Program} {O : Ctx} {outs : Outs} {base : World} {okc : Nat → Prop} {ns : Nat}
theorem farVS_nil (st : St) (X : Prop) : FarVS [] st X = X := rfl
theorem farVS_cons (a b : Nat) (l : List (Nat × Nat)) (fr : List (Nat × SV)) (hp : List (Nat × Blk)) (nid : Nat) (X : Prop) : FarVS ((a, b) :: l) ⟨fr, hp, nid⟩ X = (ApartS (look fr a) (look fr b) ∧ FarVS l ⟨fr, hp, nid⟩ X) := rfl
end
end Go.Sx
end
section
set_option linter.defProp false
set_option linter.unusedVariables false
set_option linter.unusedSimpArgs false
namespace Go.Sx
open Go.RowKit
def farL : List (Nat × List (Nat × Nat)) → Nat → List (Nat × Nat)
  | [], _ => []
  | (n, l) :: r, i => if i = n then l else farL r i
def farN : List (Nat × List (Nat × Nat)) → Nat → Bool
  | [], _ => true
  | (n, _) :: r, i => !decide (i = n) && farN r i
theorem farN_nil (i : Nat) : farN [] i = true := rfl
theorem farN_cons (n : Nat) (l : List (Nat × Nat)) (r : List (Nat × List (Nat × Nat))) (i : Nat) : farN ((n, l) :: r) i = (!decide (i = n) && farN r i) := rfl
theorem farL_none : ∀ {L : List (Nat × List (Nat × Nat))} {i : Nat}, farN L i = true → farL L i = []
  | [], _, _ => rfl
  | (n, l) :: r, i, h => by
    simp only [farN, Bool.and_eq_true, Bool.not_eq_true', decide_eq_false_iff_not] at h
    simp only [farL]
    rw [if_neg h.1]
    exact farL_none h.2
section
variable {P : Program} {fs : List Fr} {lo : Nat} {rnd : Bool}
theorem vc_regL_of {L : List (Nat × List (Nat × Nat))} {n x y : Nat} {l : List (Nat × Nat)} (e : farL L n = (x, y) :: l) (hxy : x ≠ y) (ops : List Oper) (d : Bool) (st : St) (K : Ex → St → Prop) : vc P ⟨fs, lo, rnd, farL L⟩ (.region n ops.toArray d) st K = opsVC P ⟨fs, lo, rnd, farL L⟩ (inlOk d ops = true) (dsts ops) ops 0 st (fun st' => FarVC ((x, y) :: l) st' (K .normal ⟨st'.fr, st'.hp, st'.nid + ops.length⟩)) := by
  show (if isHand (farL L n) = true then _ else opsVC P _ _ _ _ 0 st (fun st' => FarVC (farL L n) st' (K .normal ⟨st'.fr, st'.hp, st'.nid + ops.length⟩))) = _
  rw [e, if_neg (by simp [isHand, hxy])]
theorem vc_regH_of {L : List (Nat × List (Nat × Nat))} {n : Nat} (e : farL L n = [(0, 0)]) (ops : List Oper) (d : Bool) (st : St) (K : Ex → St → Prop) : vc P ⟨fs, lo, rnd, farL L⟩ (.region n ops.toArray d) st K = HandT P ⟨fs, lo, rnd, farL L⟩ n ops d st K .mk := by
  show (if isHand (farL L n) = true then RawVC P _ (.region n ops.toArray d) st K else _) = _
  rw [e, if_pos (by rfl)]; rfl
theorem vc_regLN {L : List (Nat × List (Nat × Nat))} (id : Nat) (ops : List Oper) (d : Bool) (st : St) (K : Ex → St → Prop) (h : farN L id = true) : vc P ⟨fs, lo, rnd, farL L⟩ (.region id ops.toArray d) st K = opsVC P ⟨fs, lo, rnd, farL L⟩ (inlOk d ops = true) (dsts ops) ops 0 st (fun st' => K .normal ⟨st'.fr, st'.hp, st'.nid + ops.length⟩) := by
  have e := farL_none h
  show (if isHand (farL L id) = true then _ else opsVC P _ _ _ _ 0 st (fun st' => FarVC (farL L id) st' (K .normal ⟨st'.fr, st'.hp, st'.nid + ops.length⟩))) = _
  rw [e]; rfl
theorem vc_regL1 {r : List (Nat × List (Nat × Nat))} {x y : Nat} {l : List (Nat × Nat)} (n : Nat) (ops : List Oper) (d : Bool) (st : St) (K : Ex → St → Prop) (hxy : x ≠ y) : vc P ⟨fs, lo, rnd, farL ((n, (x, y) :: l) :: r)⟩ (.region n ops.toArray d) st K = opsVC P ⟨fs, lo, rnd, farL ((n, (x, y) :: l) :: r)⟩ (inlOk d ops = true) (dsts ops) ops 0 st (fun st' => FarVC ((x, y) :: l) st' (K .normal ⟨st'.fr, st'.hp, st'.nid + ops.length⟩)) := vc_regL_of (by simp [farL]) hxy ops d st K
theorem vc_regL2 {r : List (Nat × List (Nat × Nat))} {a x y : Nat} {k l : List (Nat × Nat)} (n : Nat) (ops : List Oper) (d : Bool) (st : St) (K : Ex → St → Prop) (h : n ≠ a) (hxy : x ≠ y) : vc P ⟨fs, lo, rnd, farL ((a, k) :: (n, (x, y) :: l) :: r)⟩ (.region n ops.toArray d) st K = opsVC P ⟨fs, lo, rnd, farL ((a, k) :: (n, (x, y) :: l) :: r)⟩ (inlOk d ops = true) (dsts ops) ops 0 st (fun st' => FarVC ((x, y) :: l) st' (K .normal ⟨st'.fr, st'.hp, st'.nid + ops.length⟩)) := vc_regL_of (by simp [farL, h]) hxy ops d st K
theorem vc_regL3 {r : List (Nat × List (Nat × Nat))} {a b x y : Nat} {k j l : List (Nat × Nat)} (n : Nat) (ops : List Oper) (d : Bool) (st : St) (K : Ex → St → Prop) (h : n ≠ a) (h2 : n ≠ b) (hxy : x ≠ y) : vc P ⟨fs, lo, rnd, farL ((a, k) :: (b, j) :: (n, (x, y) :: l) :: r)⟩ (.region n ops.toArray d) st K = opsVC P ⟨fs, lo, rnd, farL ((a, k) :: (b, j) :: (n, (x, y) :: l) :: r)⟩ (inlOk d ops = true) (dsts ops) ops 0 st (fun st' => FarVC ((x, y) :: l) st' (K .normal ⟨st'.fr, st'.hp, st'.nid + ops.length⟩)) := vc_regL_of (by simp [farL, h, h2]) hxy ops d st K
theorem vc_regH1 {r : List (Nat × List (Nat × Nat))} (n : Nat) (ops : List Oper) (d : Bool) (st : St) (K : Ex → St → Prop) : vc P ⟨fs, lo, rnd, farL ((n, [(0, 0)]) :: r)⟩ (.region n ops.toArray d) st K = HandT P ⟨fs, lo, rnd, farL ((n, [(0, 0)]) :: r)⟩ n ops d st K .mk := vc_regH_of (by simp [farL]) ops d st K
theorem vc_regH2 {r : List (Nat × List (Nat × Nat))} {a : Nat} {k : List (Nat × Nat)} (n : Nat) (ops : List Oper) (d : Bool) (st : St) (K : Ex → St → Prop) (h : n ≠ a) : vc P ⟨fs, lo, rnd, farL ((a, k) :: (n, [(0, 0)]) :: r)⟩ (.region n ops.toArray d) st K = HandT P ⟨fs, lo, rnd, farL ((a, k) :: (n, [(0, 0)]) :: r)⟩ n ops d st K .mk := vc_regH_of (by simp [farL, h]) ops d st K
theorem vc_regH3 {r : List (Nat × List (Nat × Nat))} {a b : Nat} {k j : List (Nat × Nat)} (n : Nat) (ops : List Oper) (d : Bool) (st : St) (K : Ex → St → Prop) (h : n ≠ a) (h2 : n ≠ b) : vc P ⟨fs, lo, rnd, farL ((a, k) :: (b, j) :: (n, [(0, 0)]) :: r)⟩ (.region n ops.toArray d) st K = HandT P ⟨fs, lo, rnd, farL ((a, k) :: (b, j) :: (n, [(0, 0)]) :: r)⟩ n ops d st K .mk := vc_regH_of (by simp [farL, h, h2]) ops d st K
end
theorem sBlk_ptr (i o : Nat) : sBlk (.ptr i o) = some i := rfl
theorem sBlk_elt (i a b c : Nat) : sBlk (.elt i a b c) = some i := rfl
theorem sBlk_vec (i a b : Nat) : sBlk (.vec i a b) = some i := rfl
theorem sBlk_cut (i a b : Nat) : sBlk (.cut i a b) = some i := rfl
theorem sBlk_asl (i a b c : Nat) : sBlk (.asl i a b c) = some i := rfl
theorem sBlk_val (v : Value) : sBlk (.val v) = none := rfl
theorem sBlk_arr (o f : Bool) (n k : Nat) (row : Nat → Nat → SV) : sBlk (.arr o f n k row) = none := rfl
theorem sBlk_ref (o : Bool) (n : Nat) (row : Nat → SV) : sBlk (.ref o n row) = none := rfl
def apO : Option Nat → Option Nat → Prop
  | some i, some j => i ≠ j
  | _, _ => True
theorem apO_ss (i j : Nat) : apO (some i) (some j) = (i ≠ j) := rfl
theorem apO_n (x : Option Nat) : apO none x = True := by cases x <;> rfl
theorem apO_sn (x : Nat) : apO (some x) none = True := rfl
theorem apartS_eq (s s' : SV) : ApartS s s' = apO (sBlk s) (sBlk s') := by unfold ApartS apO; rfl
def RW :=
  And.intro @Go.Sx.vc_regLN <|
  And.intro @Go.Sx.vc_regL1 <|
  And.intro @Go.Sx.vc_regL2 <|
  And.intro @Go.Sx.vc_regL3 <|
  And.intro @Go.Sx.vc_regH1 <|
  And.intro @Go.Sx.vc_regH2 <|
  And.intro @Go.Sx.vc_regH3 <|
  And.intro @Go.Sx.farN_nil <|
  And.intro @Go.Sx.farN_cons <|
  And.intro @Go.Sx.farVS_nil <|
  And.intro @Go.Sx.farVS_cons <|
  And.intro @Go.Sx.apartS_eq <|
  And.intro @Go.Sx.sBlk_ptr <|
  And.intro @Go.Sx.sBlk_elt <|
  And.intro @Go.Sx.sBlk_vec <|
  And.intro @Go.Sx.sBlk_cut <|
  And.intro @Go.Sx.sBlk_asl <|
  And.intro @Go.Sx.sBlk_val <|
  And.intro @Go.Sx.sBlk_arr <|
  And.intro @Go.Sx.sBlk_ref <|
  And.intro @Go.Sx.apO_ss <|
  And.intro @Go.Sx.apO_n <|
  @Go.Sx.apO_sn
end Go.Sx
end
section
set_option linter.unusedVariables false
set_option linter.unusedSimpArgs false
set_option linter.defProp false
namespace Go.Sx
open Go.RowKit
section
variable {P : Program} {O : Ctx}
theorem mEntryOld_vc {t : TypeId} {m k : Operand} {mid : Nat} {dom : Value → Bool} {get : Value → SV} {st : St} {K : St → SV → Prop} {ag : Bool} {ls : List Lf} {z v : Value} (hx : env (look st.fr) m = .mp mid) (hk : keyV (env (look st.fr) k) = some v) (ht : mapInfo P t = some ⟨ag, ls, z⟩) (hb : blk st.hp mid = some (.map (keyFit ag ls) dom get))
    (hfv : keyFit ag ls v = true) (hd : dom v = true)
    (h : ∀ (stamp : Value → Nat) (clk : Nat), K ⟨st.fr, setBlk st.hp mid (.mapS (keyFit ag ls) dom get stamp clk), st.nid⟩ (.tup [get v, .val (.int .i64 (stamp v))])) : OpVC P O (.mapEntry t m k) st K := by
  intro base okc ns r outs a w o ho hi
  obtain ⟨kt, et, ii, hu, hki, hinf, hz, hz1⟩ := mapInfo_spec ht
  simp only [] at hki hz
  have hv := hi.env m
  rw [hx] at hv
  have hkk := hi.env k
  generalize hex : a.eval m = u at hv
  generalize hek : a.eval k = y at hkk
  obtain rfl := keyV_rep hk hkk
  cases hv with
  | mp _ b hN hr =>
  have hrep := hi.sat.rep mid _ hb hN
  rw [hr] at hrep
  cases hrep with
  | map _ _ _ _ es clock hb' hmo htm hes =>
  obtain ⟨p1, -⟩ := mapOf_put hki hmo htm hfv z
  obtain ⟨i, e, hf, hie, hek', -⟩ := p1 hd
  have hsame : es.modify i (fun e => { e with key := y }) = es := by
    refine Array.ext (by simp) fun j h1 h2 => ?_
    simp only [Array.getElem_modify]
    split
    · rename_i e1
      subst e1
      have := Array.getElem?_eq_some_iff.1 hie
      obtain ⟨_, e2⟩ := this
      rw [e2, ← hek']
    · rfl
  have hst : ∀ e, e ∈ es → e.born = stampOf es e.key := fun e he => by
    have hex : ∃ e', e' ∈ es ∧ e'.key = e.key := ⟨e, he, rfl⟩
    unfold stampOf
    rw [dif_pos hex]
    obtain ⟨c1, c2⟩ := Classical.choose_spec hex
    obtain ⟨i, hi⟩ := Array.mem_iff_getElem?.1 he
    obtain ⟨j, hj⟩ := Array.mem_iff_getElem?.1 c1
    have := hmo.once i j _ _ hi hj c2.symm
    subst this
    rw [hi] at hj
    injection hj with hj
    rw [← hj]
  have s1 : Step base okc r (· < st.nid) st.hp w r (· < st.nid) (setBlk st.hp mid (.mapS (keyFit ag ls) dom get (stampOf es) clock)) { w with heap := w.heap.setIfInBounds b (.map es clock) } :=
    put_step hi.sat hb hN hr hb' (fun _ _ _ => by simp) (.map es clock) _ fun G' w' hw' hrep => .mapS _ _ _ _ b _ clock hw' hmo htm hst fun e' he' => hrep _ _ (hes e' he')
  have hi1 : InvR O base okc ns st.nid r outs ⟨st.fr, setBlk st.hp mid (.mapS (keyFit ag ls) dom get (stampOf es) clock), st.nid⟩ a { w with heap := w.heap.setIfInBounds b (.map es clock) } :=
    hi.step s1 (keys_set hb hi.keys) (Nat.le_refl _) (d := none) (fun t ht => by cases ht) (.top undef)
  have hme : e ∈ es := Array.mem_of_getElem? hie
  have hrv := s1.rep (hes e hme)
  rw [hek'] at hrv
  refine ⟨.tuple #[e.val, goInt e.born], _, ?_, ⟨st.fr, setBlk st.hp mid _, st.nid⟩, r, _, h (stampOf es) clock, Nat.le_refl _, hi1, .tup _ _ rfl fun i sv hi => ?_⟩
  · have e0 : execOp a.eval o = (do pure (.value (← Instr.mapEntry t (a.eval m) (a.eval k)))) := by
      obtain ⟨dst, op, type, pos, aft, guard⟩ := o
      simp only [] at ho; subst ho; rfl
    rw [e0, hex, hek]
    have hobj : (getObj b).run P w = .ok (.map es clock) w := by simp [getObj, Sem.run, hb']
    have hset : ∀ o, (setObj b o).run P w = .ok () { w with heap := w.heap.setIfInBounds b o } := fun o => by simp [setObj, Sem.run, hb']
    have hfes : ∀ e ∈ es.toList, keyFit ag ls e.key = true := fun e he => hmo.fits e (by simpa using he)
    have hkeep : (Instr.keyThatStays y y).run P w = .ok y w := by simp [Instr.keyThatStays, sameBits_key hki hfv]
    simp only [Instr.mapEntry, Sem.run_bind, run_underlying hu, Result.andThen_ok, hobj, run_checkK hki hfv, run_findK hki hfv es.toList hfes, hf, hie, Option.map_some, Option.getD_some, hek', hkeep, hsame, hset, Sem.run_pure]
  · match i, hi with
    | 0, hi => simp at hi; subst hi; exact hrv
    | 1, hi =>
      simp at hi; subst hi
      rw [← hek', ← hst e hme]
      exact .val _
end
theorem self_F1 (n k : Nat) : (n + (k + 1) = n) = False := by simp
theorem self_F2 (n k : Nat) : (n = n + (k + 1)) = False := by simp
def Under (l : List (Nat × Blk)) (n : Nat) : Prop := ∀ k x, blk l k = some x → k < n
theorem Under.none {l : List (Nat × Blk)} {n : Nat} (h : Under l n) {k : Nat} (hk : n ≤ k) : blk l k = none := by
  cases hb : blk l k with
  | none => rfl
  | some x => have := h k x hb; omega
theorem Under.mono {l : List (Nat × Blk)} {n m : Nat} (h : Under l n) (hm : n ≤ m) : Under l m := fun k x hx => Nat.lt_of_lt_of_le (h k x hx) hm
theorem Under.cons {l : List (Nat × Blk)} {n i : Nat} {b : Blk} (h : Under l n) (hi : i < n) : Under ((i, b) :: l) n := fun k x hx => by
  simp only [blk] at hx
  split at hx
  · omega
  · exact h k x hx
theorem Under.nil {n : Nat} : Under [] n := fun k x hx => by simp [blk] at hx
theorem SubHp.cons {l l' : List (Nat × Blk)} {i : Nat} {b : Blk} (h : SubHp l l') : SubHp ((i, b) :: l) ((i, b) :: l') := fun k x hx => by
  simp only [blk] at hx ⊢
  split
  · rename_i e; rw [if_pos e] at hx; exact hx
  · rename_i e; rw [if_neg e] at hx; exact h k x hx
theorem SubHp.skip {l l' : List (Nat × Blk)} {i : Nat} {b : Blk} (hb : blk l' i = none) (h : SubHp l l') : SubHp ((i, b) :: l) l' := fun k x hx => by
  simp only [blk]
  split
  · rename_i e; subst e; rw [hb] at hx; cases hx
  · exact h k x hx
theorem SubHp.trans {a b c : List (Nat × Blk)} (h : SubHp a b) (h' : SubHp b c) : SubHp a c := fun k x hx => h k x (h' k x hx)
end Go.Sx
end
section
set_option linter.unusedVariables false
set_option linter.unusedSimpArgs false
set_option linter.defProp false
namespace Go.Sx
open Go.RowKit
section
variable {P : Program} {O : Ctx}
end
end Go.Sx
end
