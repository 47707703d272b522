/- The proof engine. -/
import Derived.Lib.AppendZerosOnto
import Derived.Test.YtnpannhbeapidaaEE
section
set_option linter.unusedVariables false
set_option linter.unusedSimpArgs false
namespace Go.Sx
open Go.RowKit
section
variable {P : Program}
def seqH (P : Program) (O : Ctx) (ds : List (Option Tmp)) : List Oper → St → (St → Prop) → Prop
  | [], st, K => K st
  | o :: rest, st, K => opH P O ds o st fun st' => seqH P O ds rest st' K
theorem seqH_ok {O : Ctx} {base : World} {okc : Nat → Prop} {ns : Nat} {outs : Outs} {ro : Option Nat} {allops : Array Oper} {Q : Exit → Act → World → Prop} {K : St → Prop} : ∀ (ops : List Oper) (st : St) (a : Act) (w : World), Inv O base okc ns st.nid outs st a w → ops.all (dstIn ns) = true →
    seqH P O (dsts allops.toList) ops st K → (∀ st' a' w', K st' → Inv O base okc ns st'.nid outs st' a' w' → Q .normal a' w') → wpListIn (FR ro) 0 P allops Q ops a w
  | [], st, a, w, h, hd, hk, hK => hK st a w hk h
  | o :: rest, st, a, w, h, hd, hk, hK => by
    simp only [List.all_cons, Bool.and_eq_true] at hd
    unfold wpListIn
    exact opH_ok (ops := allops) h hd.1 hk fun st' a' w' hk' h' => seqH_ok rest st' a' w' h' hd.2 hk' hK
theorem rawSeq {O : Ctx} {st : St} {K : Ex → St → Prop} {id : Nat} {ops : List Oper} {g : Tag K} (h : seqH P O (dsts ops) ops st (fun st' => K .normal st')) : HandT P O id ops false st K g := by
  intro base okc ns outs a w ro Q hro hc hi hK
  simp only [codeOkF, Bool.and_eq_true] at hc
  obtain ⟨hd, -⟩ := hc
  have hd : ops.all (dstIn ns) = true := by simpa using hd
  refine wpIn_region_list ?_
  have := seqH_ok (ro := ro) (allops := ops.toArray) (Q := Q) (K := fun st' => K .normal st') ops st a w hi hd (by simpa using h) fun st' a' w' hk hi' => hK .normal st' a' w' hk hi'
  simpa using this
section
variable {O : Ctx} {ds : List (Option Tmp)} {dst : Option Tmp} {op : Op} {ty : TypeId} {pos : String} {af : Array Edge} {rest : List Oper} {st : St} {K : St → Prop}
theorem seqH_op (h : resT P O (Tag.mk : Tag True) (Tag.mk : Tag op) dst st.nid st (fun st' => seqH P O ds rest ⟨st'.fr, st'.hp, st'.nid + 1⟩ K) .mk (stepR P (look st.fr) st.hp op)) : seqH P O ds (⟨dst, op, ty, pos, af, none⟩ :: rest) st K := .inl h
theorem seqH_hand (hd : noDef op = true) (h : OpVC P O op st (fun st' res => seqH P O ds rest (st'.put dst res) K)) : seqH P O ds (⟨dst, op, ty, pos, af, none⟩ :: rest) st K := .inr ⟨hd, .inl h⟩
theorem seqH_nil : seqH P O ds [] st K = K st := rfl
end
theorem run_zeros_none (w : World) (t tn ty e : TypeId) (i : TypeInfo) (kq kn : IntKind) (ht : P.underlying t = some (.slice e)) (htn : P.underlying tn = some (.int kn)) (hi : P.info? e = some i) (b : Option Addr) (n cap : Nat) (h : n ≤ cap) :
    (Builtin.append_ #[t, tn] ty #[.slice b n cap, .int kq 0]).run P w = .ok (.slice b n cap) w := by
  have hw : IntKind.i64.wrap 0 = 0 := by rw [IntKind.wrap_i64]; omega
  cases b <;> simp [Builtin.append_, run_underlying ht, run_underlying htn, sizeOf, typeInfo, hi, asInt, asIntOf, hw, h, storeCells]
theorem run_zeros_room (w : World) (t tn ty e : TypeId) (i : TypeInfo) (z : Value) (kq kn : IntKind) (ht : P.underlying t = some (.slice e)) (htn : P.underlying tn = some (.int kn)) (hi : P.info? e = some i) (hz : i.zero = some z)
    (g sLen sCap : Nat) (cur : Array Value) (hg : w.heap[g]? = some (.cells cur e (0, 0))) (m : Nat) (h0 : 0 < m) (hs : 0 < i.size) (hm : m ≤ 1000000) (h48 : m * i.bytes ≤ 281474976710656) (h1 : ∀ u ∈ (Builtin.zeroCells z.cells m).toList, u.oneCell' = true)
    (hroom : sLen + m ≤ sCap) (hfit : sLen * i.size + (Builtin.zeroCells z.cells m).toList.length ≤ cur.size) :
    (Builtin.append_ #[t, tn] ty #[.slice (some ⟨g, 0, none⟩) sLen sCap, .int kq m]).run P w =
      .ok (.slice (some ⟨g, 0, none⟩) (sLen + m) sCap) (w.setRow g (cur.toList.take (sLen * i.size) ++ (Builtin.zeroCells z.cells m).toList ++ cur.toList.drop (sLen * i.size + (Builtin.zeroCells z.cells m).toList.length)).toArray) := by
  have hw : IntKind.i64.wrap (m : Int) = m := by rw [IntKind.wrap_i64]; omega
  have h48i : ¬ (281474976710656 < (m : Int) * (i.bytes : Int)) := by rw [← Int.natCast_mul]; omega
  have hneg : ¬ ((m : Int) < 0) := by omega
  have hns : ¬ (m * i.size = 0) := Nat.mul_ne_zero (by omega) (by omega)
  have hst := run_storeCells_at P g (sLen * i.size) e (Builtin.zeroCells z.cells m).toList 0 cur w hg (by simpa using hfit) h1
  simp only [Nat.add_zero] at hst
  have hne : m ≠ 0 := by omega
  simp [Builtin.append_, run_underlying ht, run_underlying htn, sizeOf, typeInfo, zeroValue, hi, hz, asInt, asIntOf, hw, hneg, hne, hns, h48i, hroom, Addr.add_lit, hst]
theorem zeroCells_flat {z : Array Value} {v : Value} (hz : z.toList = [v]) (m : Nat) : (Builtin.zeroCells z m).toList = flat (fun _ _ => v) m 1 := by
  obtain rfl : z = #[v] := by cases z; simp at hz; subst hz; rfl
  simp [Builtin.zeroCells, flat]
  intro a ha
  simp [Nat.mod_one]
theorem zeros_step {base : World} {okc : Nat → Prop} {r : Nat → Option Nat} {N : Nat → Prop} {hp hp' : List (Nat × Blk)} {w : World} (h : Sat base okc r N hp w) {t tn ty e : TypeId} {i : TypeInfo} {zv : Value} {kq kn : IntKind} (ht : P.underlying t = some (.slice e)) (htn : P.underlying tn = some (.int kn)) (hi : P.info? e = some i) (hz : i.zero = some zv) (hk : i.size = 1) (hzl : zv.cells.toList = [.int .i64 0])
    {id n n' m nid : Nat} {row : Nat → Nat → SV} {u : Value} (hu : Rep r N (Gd base okc r N hp w) w (.vec id n 1) u) (hblk : blk hp id = some (.rows e 1 n' row)) (hn : n ≤ n') (hsm : n + m ≤ 1000000) (hby : bytesOf P e ≤ 100000000) (hid : ¬ N nid)
    (hat : blk hp' nid = some (.rows e 1 (n + m) (fun i j => if i < n then row i j else .val (.int .i64 0)))) (hoth : ∀ j, N j → j ≠ id → blk hp' j = blk hp j) (hdrop : blk hp' id = none) :
    ∃ v w' r', (Builtin.append_ #[t, tn] ty #[u, .int kq m]).run P w = .ok v w' ∧ Step base okc r N hp w r' (plus N nid) hp' w' ∧ Rep r' (plus N nid) (Gd base okc r' (plus N nid) hp' w') w' (.vec nid (n + m) 1) v := by
  have hoth' : ∀ j, N j → some j ≠ some id → blk hp' j = blk hp j := fun j hj hne => hoth j hj fun e => hne (by rw [e])
  have hdrop' : ∀ o, some id = some o → blk hp' o = none := fun o ho => by cases ho; exact hdrop
  have hzf := zeroCells_flat hzl
  have hzs : zv.cells.size = 1 := by simpa using congrArg List.length hzl
  rw [bytes_of hi] at hby
  have hmb : m * i.bytes ≤ 281474976710656 := by
    have : m * i.bytes ≤ 1000000 * 100000000 := Nat.mul_le_mul (by omega) hby
    omega
  have hr2 : ∀ i j, i < m → j < 1 → Rep r N (Gd base okc r N hp w) w ((fun _ _ => SV.val (.int .i64 0) : Nat → Nat → SV) i j) ((fun _ _ => Value.int .i64 0 : Nat → Nat → Value) i j) := fun _ _ _ _ => .val _
  cases hu with
  | vecNil _ _ hN hrn =>
    by_cases hm0 : m = 0
    · subst hm0
      have hrun := run_zeros_none (P := P) w t tn ty e i kq kn ht htn hi none 0 0 (Nat.le_refl _)
      obtain ⟨r', hst, hrep⟩ := new_none h nid hid (some id) hat hoth' hdrop'
      exact ⟨_, _, r', hrun, hst, hrep⟩
    · have hrun := Lib.run_append_nil_zeros (P := P) w t tn ty e i zv kq kn ht htn hi hz m (by omega) (by omega) (by omega) hmb
      obtain ⟨r', hst, hrep⟩ := grown_step (n := 0) (olds := []) (news := flat (fun _ _ => Value.int .i64 0) m 1) (rest := (Builtin.zeroCells zv.cells (grownCap w m 0 e - m)).toList) (f1 := fun _ _ => undef) (f2 := fun _ _ => Value.int .i64 0) (row1 := row) (row2 := fun _ _ => .val (.int .i64 0)) (gc := grownCap w m 0 e) h nid hid (some id) hat hoth' hdrop' (by simp [flat]) rfl
        (by rw [zeroCells_toList, hzs]; simp) (by rw [Nat.zero_add]; exact grownCap_ge w m 0 e) (cap_small w m 0 (by omega)) (fun i j hi => by omega) hr2
      have e1 : (([] : List Value) ++ flat (fun _ _ => Value.int .i64 0) m 1 ++ (Builtin.zeroCells zv.cells (grownCap w m 0 e - m)).toList).toArray = Builtin.zeroCells zv.cells m ++ Builtin.zeroCells zv.cells (grownCap w m 0 e - m) := by
        apply Array.ext'
        rw [← hzf m]; simp
      rw [e1] at hst hrep
      rw [Nat.zero_add] at hrep ⊢
      exact ⟨_, _, r', hrun, hst, hrep⟩
  | vec _ _ _ b cap cs tt hN hrn hb hcs hcap hmx =>
    have hrep := h.rep _ _ hblk hN
    rw [hrn] at hrep
    cases hrep with
    | rows _ _ _ _ _ cs' hb' hl hrep =>
      rw [hb] at hb'
      simp only [Option.some.injEq, Obj.cells.injEq, and_true] at hb'
      obtain ⟨rfl, rfl⟩ := hb'
      by_cases hm0 : m = 0
      · subst hm0
        have hrun := run_zeros_none (P := P) w t tn ty tt i kq kn ht htn hi (some ⟨b, 0, none⟩) n cap hcap
        have hst := h.exch (w' := w) nid hid (some id) _ (some b) hat hoth' hdrop' h.below (Shapes.refl w) (Nat.le_refl _) (fun _ _ _ => rfl) (fun c hc => .inl ⟨id, _, rfl, hblk, hN, by rw [hrn]; exact hc⟩) fun r' N' G' hr' hN' hG' _ =>
          .rows _ _ _ _ b cs hb (Nat.le_trans (Nat.mul_le_mul_right _ (by omega)) hl) fun i j hi hj => by
            rw [if_pos (by omega)]
            exact (hrep i j (by omega) hj).mono hr' hN' hG' (Shapes.refl w)
        exact ⟨_, _, _, hrun, hst, .vec _ _ _ b cap cs tt (.inr rfl) (upd_same _ _ _) hb hcs hcap hmx⟩
      · by_cases hroom : n + m ≤ cap
        · have hfit : n * i.size + (flat (fun _ _ => Value.int .i64 0) m 1).length ≤ cs.size := by rw [flat_length, hk, hcs, ← Nat.add_mul]; exact Nat.mul_le_mul_right _ hroom
          have hrun := run_zeros_room (P := P) w t tn ty tt i zv kq kn ht htn hi hz b n cap cs hb m (by omega) (by omega) (by omega) hmb (fun u hu => by rw [hzf] at hu; simp [flat] at hu; obtain ⟨_, _, rfl⟩ := hu; rfl) hroom (by rw [hzf]; exact hfit)
          rw [hzf] at hrun
          have hsz : (cs.toList.take (n * i.size) ++ flat (fun _ _ => Value.int .i64 0) m 1 ++ cs.toList.drop (n * i.size + (flat (fun _ _ => Value.int .i64 0) m 1).length)).toArray.size = cs.size := by
            simp only [List.size_toArray, List.length_append, List.length_take, List.length_drop, Array.length_toList]
            omega
          have hsh := setRow_shapes (w := w) hb hsz
          have hb2 := setRow_heap w b cs (cs.toList.take (n * i.size) ++ flat (fun _ _ => Value.int .i64 0) m 1 ++ cs.toList.drop (n * i.size + (flat (fun _ _ => Value.int .i64 0) m 1).length)).toArray tt _ hb
          have hst := h.exch (w' := w.setRow b (cs.toList.take (n * i.size) ++ flat (fun _ _ => Value.int .i64 0) m 1 ++ cs.toList.drop (n * i.size + (flat (fun _ _ => Value.int .i64 0) m 1).length)).toArray) nid hid (some id) _ (some b) hat hoth' hdrop'
            (setRow_below h.below (h.own _ _ _ hblk hN hrn) _) hsh (by rw [setRow_size]; exact Nat.le_refl _) (fun c hc hno => setRow_other w b _ fun e => hno id _ rfl hblk hN (by rw [e]; exact hrn))
            (fun c hc => .inl ⟨id, _, rfl, hblk, hN, by rw [hrn]; exact hc⟩) fun r' N' G' hr' hN' hG' _ => by
              refine .rows _ _ _ _ b _ hb2 (by rw [hsz, hcs]; exact Nat.mul_le_mul_right _ hroom) fun x j hx hj => ?_
              have hcell : ((cs.toList.take (n * i.size) ++ flat (fun _ _ => Value.int .i64 0) m 1 ++ cs.toList.drop (n * i.size + (flat (fun _ _ => Value.int .i64 0) m 1).length)).toArray).getD (x * 1 + j) undef = if x < n then cs.getD (x * 1 + j) undef else Value.int .i64 0 := by
                have hnl : n * 1 ≤ cs.size := by rw [hcs]; exact Nat.mul_le_mul_right _ hcap
                simp only [Array.getD_eq_getD_getElem?, List.getElem?_toArray, hk]
                by_cases hxn : x < n
                · have := row_lt hxn hj
                  rw [if_pos hxn, List.append_assoc, List.getElem?_append_left (by simp; omega), List.getElem?_take_of_lt this]
                  simp
                · have hle : n * 1 ≤ x * 1 := Nat.mul_le_mul_right _ (by omega)
                  have hlt := row_lt (show x - n < m by omega) hj
                  rw [Nat.sub_mul] at hlt
                  have hmin : min (n * 1) cs.toList.length = n * 1 := by simp; omega
                  rw [if_neg hxn, List.getElem?_append_left (by rw [List.length_append, List.length_take, flat_length, hmin]; omega), List.getElem?_append_right (by rw [List.length_take, hmin]; omega), List.length_take, hmin]
                  have e : x * 1 + j - n * 1 = (x - n) * 1 + j := by rw [Nat.sub_mul]; omega
                  rw [e, flat_get _ _ _ _ _ (by omega) hj]
                  rfl
              rw [hcell]
              by_cases hxn : x < n
              · rw [if_pos hxn, if_pos hxn]; exact (hrep x j (by omega) hj).mono hr' hN' hG' hsh
              · rw [if_neg hxn, if_neg hxn]; exact .val _
          exact ⟨_, _, _, hrun, hst, .vec _ _ _ b cap _ tt (.inr rfl) (upd_same _ _ _) hb2 (hsz.trans hcs) hroom hmx⟩
        · have hfl : flat (fun i j => cs.getD (i * 1 + j) undef) n 1 = cs.toList.take n := by
            apply List.ext_getElem?
            intro q
            by_cases hq : q < n
            · have := flat_get (fun i j => cs.getD (i * 1 + j) undef) n 1 q 0 hq (by omega)
              rw [show q * 1 + 0 = q by omega] at this
              rw [this, List.getElem?_take_of_lt hq]
              have hqs : q < cs.size := by omega
              simp [hqs]
            · rw [List.getElem?_eq_none (by rw [flat_length]; omega), List.getElem?_eq_none (by simp; omega)]
          have hold : (Builtin.firstCells i.size n (.slice (some ⟨b, 0, none⟩) n cap)).run P w.drew = .ok (flat (fun i j => cs.getD (i * 1 + j) undef) n 1).toArray w.drew :=
            run_firstCells_some (P := P) w.drew i.size n ⟨b, 0, none⟩ n cap _ (by rw [flat_length, hk]) (fun q v hq => by
              rw [hfl] at hq
              have hqn : q < n := by
                have := (List.getElem?_eq_some_iff.1 hq).1
                simp at this; omega
              rw [List.getElem?_take_of_lt hqn] at hq
              have hqs : q < cs.size := by omega
              have h7 := cell_at (w := w.drew) (b := b) (cs := cs) hb q hqs
              have h8 : cs[q]? = some v := by simpa using hq
              rw [Addr.add_lit, Nat.zero_add, h7]
              simp [Array.getD_eq_getD_getElem?, h8])
          have hrun := Lib.run_append_grow_zeros (P := P) w t tn ty tt i zv kq kn ht htn hi hz (some ⟨b, 0, none⟩) n cap (flat (fun i j => cs.getD (i * 1 + j) undef) n 1) hold m (by omega) (by omega) (by omega) (by omega) hmb (fits_small (by omega) hsm hby)
          obtain ⟨r', hst, hrep'⟩ := grown_step (n := n) (olds := flat (fun i j => cs.getD (i * 1 + j) undef) n 1) (news := flat (fun _ _ => Value.int .i64 0) m 1) (rest := (Builtin.zeroCells zv.cells (grownCap w (n + m) cap tt - (n + m))).toList) (f1 := fun i j => cs.getD (i * 1 + j) undef) (f2 := fun _ _ => Value.int .i64 0) (row1 := row) (row2 := fun _ _ => .val (.int .i64 0)) (gc := grownCap w (n + m) cap tt) h nid hid (some id) hat hoth' hdrop' rfl rfl
            (by rw [zeroCells_toList, hzs]) (grownCap_ge w _ _ tt) (cap_small w _ _ hsm) (fun i j hi hj => hrep i j (by omega) hj) hr2
          have e1 : (flat (fun i j => cs.getD (i * 1 + j) undef) n 1 ++ flat (fun _ _ => Value.int .i64 0) m 1 ++ (Builtin.zeroCells zv.cells (grownCap w (n + m) cap tt - (n + m))).toList).toArray = (flat (fun i j => cs.getD (i * 1 + j) undef) n 1).toArray ++ Builtin.zeroCells zv.cells m ++ Builtin.zeroCells zv.cells (grownCap w (n + m) cap tt - (n + m)) := by
            apply Array.ext'
            rw [← hzf m]; simp
          rw [e1] at hst hrep'
          exact ⟨_, _, r', hrun, hst, hrep'⟩
theorem zeros_vc {O : Ctx} {t tn : TypeId} {x y : Operand} {id n n' m : Nat} {e : TypeId} {row : Nat → Nat → SV} {st : St} {K : St → SV → Prop} {ag ag' : Bool} {sz sz' : Nat} {z0 : Option (List Value)} {d : D} {kq kn : IntKind}
    (ht : tyOf P t = some ⟨ag, sz, z0, .slice e 1⟩) (hte : tyOf P e = some ⟨ag', sz', some [.int .i64 0], d⟩) (htn : P.underlying tn = some (.int kn))
    (hx : env (look st.fr) x = .vec id n 1) (hy : env (look st.fr) y = .val (.int kq (m : Nat))) (hb : blk st.hp id = some (.rows e 1 n' row)) (hn : n ≤ n') (hsm : n + m ≤ 1000000) (hby : bytesOf P e ≤ 100000000) (hid : id ≠ st.nid)
    (h : K ⟨st.fr, (st.nid, .rows e 1 (n + m) (fun i j => if i < n then row i j else .val (.int .i64 0))) :: dropBlk st.hp id, st.nid + 1⟩ (.vec st.nid (n + m) 1)) : OpVC P O (.call ⟨.builtin .append, #[x, y], #[t, tn]⟩) st K := by
  intro base okc ns r outs a w o ho hi
  obtain ⟨hts, i, hi', hk⟩ := slice_of' ht
  obtain ⟨zv, hz, hzl⟩ := zero_of hi' hte
  have hu := hi.env x
  rw [hx] at hu
  have hv := hi.env y
  rw [hy] at hv
  generalize hex : a.eval x = u at hu
  generalize hey : a.eval y = v at hv
  cases hv
  obtain ⟨v', w', r', hrun, hst, hrep⟩ := zeros_step (ty := o.type) (kq := kq) hi.sat (nid := st.nid) (hp' := (st.nid, .rows e 1 (n + m) (fun i j => if i < n then row i j else .val (.int .i64 0))) :: dropBlk st.hp id) hts htn hi' hz hk hzl hu hb hn hsm hby (by omega) (by simp [blk]) (fun j hj hne => by
    simp only [blk, blk_dropBlk]; rw [if_neg (by omega), if_neg hne]) (by simp only [blk, blk_dropBlk]; rw [if_neg hid]; simp)
  rw [plus_lt] at hst hrep
  refine ⟨v', w', ?_, _, r', _, h, Nat.le_succ _, ?_, hrep⟩
  · have e0 : execOp a.eval o = (do pure (.value (← Builtin.append_ #[t, tn] o.type #[u, .int kq m]))) := by
      obtain ⟨dst, op, type, pos, aft, guard⟩ := o
      simp only [] at ho
      subst ho
      simp [execOp, Go.resolve, Go.invoke, Go.builtin, hex, hey]
    rw [e0]
    simp only [Sem.run_bind, hrun, Result.andThen_ok, Sem.run_pure]
  · have := hi.step hst (fun j z hz => by
      simp only [blk, blk_dropBlk] at hz
      split at hz
      · omega
      · split at hz
        · cases hz
        · have := hi.keys j z hz; omega) (Nat.le_succ _) (d := none) (fun t ht => by cases ht) (.val undef)
    exact this.nid _
end
end Go.Sx
end
