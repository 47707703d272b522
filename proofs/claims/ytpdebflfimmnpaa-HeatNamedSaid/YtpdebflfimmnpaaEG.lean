/- The proof engine. -/
import Derived.Lib.AppendZerosOnto
import Derived.Test.YtpdebflfimmnpaaEE
import Derived.Test.YtpdebflfimmnpaaEF
section
set_option linter.unusedVariables false
set_option linter.unusedSimpArgs false
namespace Go.Sx
open Go.RowKit
section
variable {P : Program}
def seqH (P : Program) (O : Ctx) (ds : List (Option Tmp)) : List Oper → St → (St → Prop) → Prop
 | [], st, K => K st
 | o :: rest, st, K => opH P O ds o st fun st' => seqH P O ds rest st' K
theorem seqH_ok {O : Ctx} {base : World} {okc : Nat → Prop} {ns : Nat} {outs : Outs} {ro : Option Nat} {allops : Array Oper} {Q : Exit → Act → World → Prop} {K : St → Prop} : ∀ (ops : List Oper) (st : St) (a : Act) (w : World), Inv O base okc ns st.nid outs st a w → ops.all (dstIn ns) = true →
  seqH P O (dsts allops.toList) ops st K → (∀ st' a' w', K st' → Inv O base okc ns st'.nid outs st' a' w' → Q .normal a' w') → wpListIn (FR ro) 0 P allops Q ops a w
 | [], st, a, w, h, hd, hk, hK => hK st a w hk h
 | o :: rest, st, a, w, h, hd, hk, hK => by
  simp only [List.all_cons, Bool.and_eq_true] at hd
  unfold wpListIn
  exact opH_ok (ops := allops) h hd.1 hk fun st' a' w' hk' h' => seqH_ok rest st' a' w' h' hd.2 hk' hK
theorem rawSeq {O : Ctx} {st : St} {K : Ex → St → Prop} {id : Nat} {ops : List Oper} {g : Tag K} (h : seqH P O (dsts ops) ops st (fun st' => K .normal st')) : HandT P O id ops false st K g := by
 intro base okc ns outs a w ro Q hro hc hi hK
 simp only [codeOkF, Bool.and_eq_true] at hc
 obtain ⟨hd, -⟩ := hc
 have hd : ops.all (dstIn ns) = true := by simpa using hd
 refine wpIn_region_list ?_
 have := seqH_ok (ro := ro) (allops := ops.toArray) (Q := Q) (K := fun st' => K .normal st') ops st a w hi hd (by simpa using h) fun st' a' w' hk hi' => hK .normal st' a' w' hk hi'
 simpa using this
end
end Go.Sx
end
section
set_option linter.unusedVariables false
set_option linter.unusedSimpArgs false
namespace Go.Sx
open Go.RowKit
section
variable {P : Program}
theorem run_append_room_off (w : World) (t ty e : TypeId) (i : TypeInfo) (ht : P.underlying t = some (.slice e)) (hi : P.info? e = some i) (g off sLen sCap : Nat) (cur : Array Value) (hg : w.heap[g]? = some (.cells cur e (0, 0)))
  (a : Addr) (m c : Nat) (news : List Value) (hl : news.length = m * i.size) (hnews : ∀ j u, news[j]? = some u → w.cell? (a.add j) = some u) (h1 : ∀ u ∈ news, u.oneCell' = true) (hroom : sLen + m ≤ sCap) (hfit : off + sLen * i.size + news.length ≤ cur.size) :
  (Builtin.append_ #[t, t] ty #[.slice (some ⟨g, off, none⟩) sLen sCap, .slice (some a) m c]).run P w = .ok (.slice (some ⟨g, off, none⟩) (sLen + m) sCap) (w.setRow g (cur.toList.take (off + sLen * i.size) ++ news ++ cur.toList.drop (off + sLen * i.size + news.length)).toArray) := by
 have hfc := run_firstCells_some (P := P) w i.size m a m c news hl hnews
 have hst := run_storeCells_at P g (off + sLen * i.size) e news 0 cur w hg (by simpa using hfit) h1
 simp only [Nat.add_zero] at hst
 simp [Builtin.append_, run_underlying ht, sizeOf, typeInfo, hi, Builtin.lenOf, hroom, hfc, Addr.add_lit, hst]
theorem rep_que0 {r : Nat → Option Nat} {N : Nat → Prop} {G : Bool → Nat → Prop} {w : World} {id n k : Nat} {v : Value} (h : Rep r N G w (.vec id n k) v) : Rep r N G w (.que id 0 n k) v := by
 cases h with
 | vecNil _ _ hN hr => exact .queNil _ _ _ _ hN
 | vec _ _ _ b cap cs t hN hr hb hcs hcap hmx =>
  have := Rep.que (r := r) (N := N) (G := G) (w := w) id 0 n k b cap cs t hN hr hb (by rw [Nat.zero_add]; exact hcs) hcap (by rw [Nat.zero_add]; exact hmx)
  rwa [Nat.zero_mul] at this
theorem que_step {base : World} {okc : Nat → Prop} {r : Nat → Option Nat} {N : Nat → Prop} {hp hpA hpB : List (Nat × Blk)} {w : World} (h : Sat base okc r N hp w) {t ty e : TypeId} {i : TypeInfo} {zv : Value} (ht : P.underlying t = some (.slice e)) (hi : P.info? e = some i) (hz : i.zero = some zv) {k : Nat} (hk : i.size = k) (hzk : zv.cells.toList.length = k) (hpos : 0 < k)
  {id off n n' m nid : Nat} {row row2 : Nat → Nat → SV} {u v : Value} (hu : Rep r N (Gd base okc r N hp w) w (.que id off n k) u) (hblk : blk hp id = some (.rows e k n' row)) (hn : off + n ≤ n') (hm : 0 < m) (hsm : off + n + m ≤ 1000000) (hby : bytesOf P e ≤ 100000000) (hid : ¬ N nid)
  {a2 : Option Addr} {c2 : Nat} {f2 : Nat → Nat → Value} (hv : RowsAt r N (Gd base okc r N hp w) w v m k row2 a2 c2 f2) (h9 : oneRows m k row2)
  (hatA : blk hpA nid = some (.rows e k (off + n + m) (fun i j => if i < off + n then row i j else row2 (i - (off + n)) j))) (hothA : ∀ j, N j → j ≠ id → blk hpA j = blk hp j) (hdropA : blk hpA id = none)
  (hatB : blk hpB nid = some (.rows e k (n + m) (fun i j => if i < n then row (off + i) j else row2 (i - n) j))) (hothB : ∀ j, N j → j ≠ id → blk hpB j = blk hp j) (hdropB : blk hpB id = none) :
  ∃ z w' r', (Builtin.append_ #[t, t] ty #[u, v]).run P w = .ok z w' ∧
   ((Step base okc r N hp w r' (plus N nid) hpA w' ∧ Rep r' (plus N nid) (Gd base okc r' (plus N nid) hpA w') w' (.que nid off (n + m) k) z) ∨
    (Step base okc r N hp w r' (plus N nid) hpB w' ∧ Rep r' (plus N nid) (Gd base okc r' (plus N nid) hpB w') w' (.que nid 0 (n + m) k) z)) := by
 have hothA' : ∀ j, N j → some j ≠ some id → blk hpA j = blk hp j := fun j hj hne => hothA j hj fun e => hne (by rw [e])
 have hothB' : ∀ j, N j → some j ≠ some id → blk hpB j = blk hp j := fun j hj hne => hothB j hj fun e => hne (by rw [e])
 have hdropA' : ∀ o, some id = some o → blk hpA o = none := fun o ho => by cases ho; exact hdropA
 have hdropB' : ∀ o, some id = some o → blk hpB o = none := fun o ho => by cases ho; exact hdropB
 have grow : ∀ (a1 : Option Addr) (cap : Nat) (f1 : Nat → Nat → Value), u = .slice a1 n cap → (a1 = none → cap = 0) → RowsAt r N (Gd base okc r N hp w) w u n k (fun i j => row (off + i) j) a1 cap f1 → cap < n + m →
   ∃ z w' r', (Builtin.append_ #[t, t] ty #[u, v]).run P w = .ok z w' ∧
   ((Step base okc r N hp w r' (plus N nid) hpA w' ∧ Rep r' (plus N nid) (Gd base okc r' (plus N nid) hpA w') w' (.que nid off (n + m) k) z) ∨
    (Step base okc r N hp w r' (plus N nid) hpB w' ∧ Rep r' (plus N nid) (Gd base okc r' (plus N nid) hpB w') w' (.que nid 0 (n + m) k) z)) := by
  intro a1 cap f1 he h0 hs1 hc
  obtain ⟨z, w', r', h1, h2, h3⟩ := append_grow (ty := ty) (row1 := fun i j => row (off + i) j) h ht hi hz hk hzk hpos hm hc (by omega) hby he h0 hs1 hv nid hid (some id) hatB hothB' hdropB'
  exact ⟨z, w', r', h1, .inr ⟨h2, rep_que0 h3⟩⟩
 cases hu with
 | queNil _ _ _ a hN => exact grow a 0 (fun _ _ => undef) rfl (fun _ => rfl) ⟨rfl, Nat.le_refl _, .inl rfl, fun i j hi => by omega⟩ (by omega)
 | que _ _ _ _ b cap cs tt hN hrn hb hcs hcap hmx =>
  have hrep := h.rep _ _ hblk hN
  rw [hrn] at hrep
  cases hrep with
  | rows _ _ _ _ _ cs' hb' hl hrep =>
   rw [hb] at hb'
   simp only [Option.some.injEq, Obj.cells.injEq, and_true] at hb'
   obtain ⟨rfl, rfl⟩ := hb'
   by_cases hroom : n + m ≤ cap
   ·obtain ⟨rfl, hle2, hat2, hrp2⟩ := hv
    rcases hat2 with hz2 | ⟨b2, off2, rfl, hc2⟩
    ·omega
    have eo : off * k + n * i.size = (off + n) * k := by rw [hk, Nat.add_mul]
    have hfit : off * k + n * i.size + (flat f2 m k).length ≤ cs.size := by rw [flat_length, eo, hcs, ← Nat.add_mul]; exact Nat.mul_le_mul_right _ (by omega)
    have hrun := run_append_room_off (P := P) w t ty tt i ht hi b (off * k) n cap cs hb ⟨b2, off2, none⟩ m c2 (flat f2 m k) (by rw [flat_length, hk]) (flat_cell hc2 hpos) (flat_one hrp2 h9 hpos) hroom hfit
    rw [eo] at hrun hfit
    have hsz : (cs.toList.take ((off + n) * k) ++ flat f2 m k ++ cs.toList.drop ((off + n) * k + (flat f2 m k).length)).toArray.size = cs.size := by
     simp only [List.size_toArray, List.length_append, List.length_take, List.length_drop, Array.length_toList]
     omega
    have hsh := setRow_shapes (w := w) hb hsz
    have hb2 := setRow_heap w b cs (cs.toList.take ((off + n) * k) ++ flat f2 m k ++ cs.toList.drop ((off + n) * k + (flat f2 m k).length)).toArray tt _ hb
    have hst := h.exch (w' := w.setRow b (cs.toList.take ((off + n) * k) ++ flat f2 m k ++ cs.toList.drop ((off + n) * k + (flat f2 m k).length)).toArray) nid hid (some id) _ (some b) hatA hothA' hdropA'
     (setRow_below h.below (h.own _ _ _ hblk hN hrn) _) hsh (by rw [setRow_size]; exact Nat.le_refl _) (fun c hc hno => setRow_other w b _ fun e => hno id _ rfl hblk hN (by rw [e]; exact hrn))
     (fun c hc => .inl ⟨id, _, rfl, hblk, hN, by rw [hrn]; exact hc⟩) fun r' N' G' hr' hN' hG' _ => by
      refine .rows _ _ _ _ b _ hb2 (by rw [hsz, hcs]; exact Nat.mul_le_mul_right _ (by omega)) fun x j hx hj => ?_
      have hcell : ((cs.toList.take ((off + n) * k) ++ flat f2 m k ++ cs.toList.drop ((off + n) * k + (flat f2 m k).length)).toArray).getD (x * k + j) undef = if x < off + n then cs.getD (x * k + j) undef else f2 (x - (off + n)) j := by
       have hnl : (off + n) * k ≤ cs.size := by rw [hcs]; exact Nat.mul_le_mul_right _ (by omega)
       simp only [Array.getD_eq_getD_getElem?, List.getElem?_toArray]
       by_cases hxn : x < off + n
       ·have := row_lt hxn hj
        rw [if_pos hxn, List.append_assoc, List.getElem?_append_left (by simp; omega), List.getElem?_take_of_lt this]
        simp
       ·have hle : (off + n) * k ≤ x * k := Nat.mul_le_mul_right _ (by omega)
        have hlt := row_lt (show x - (off + n) < m by omega) hj
        rw [Nat.sub_mul] at hlt
        have hmin : min ((off + n) * k) cs.toList.length = (off + n) * k := by simp; omega
        rw [if_neg hxn, List.getElem?_append_left (by rw [List.length_append, List.length_take, flat_length, hmin]; omega), List.getElem?_append_right (by rw [List.length_take, hmin]; omega), List.length_take, hmin]
        have e : x * k + j - (off + n) * k = (x - (off + n)) * k + j := by rw [Nat.sub_mul]; omega
        rw [e, flat_get _ _ _ _ _ (by omega) hj]
        rfl
      rw [hcell]
      by_cases hxn : x < off + n
      ·rw [if_pos hxn, if_pos hxn]; exact (hrep x j (by omega) hj).mono hr' hN' hG' hsh
      ·rw [if_neg hxn, if_neg hxn]; exact (hrp2 _ j (by omega) hj).mono hr' hN' hG' hsh
    exact ⟨_, _, _, hrun, .inl ⟨hst, .que _ _ _ _ b cap _ tt (.inr rfl) (upd_same _ _ _) hb2 (hsz.trans hcs) hroom hmx⟩⟩
   ·refine grow _ cap (fun i j => cs.getD ((off + i) * k + j) undef) rfl (fun e => by cases e) ⟨rfl, hcap, .inr ⟨b, off * k, rfl, fun i j hi hj => ?_⟩, fun i j hi hj => hrep (off + i) j (by omega) hj⟩ (by omega)
    rw [← Nat.add_assoc, ← Nat.add_mul]
    exact cell_at hb _ (by have := row_lt (show off + i < off + cap by omega) hj; omega)
theorem que_vc {O : Ctx} {t : TypeId} {x y : Operand} {id off n n' m k : Nat} {e : TypeId} {row row2 : Nat → Nat → SV} {s2 : SV} {obl2 : Prop} {st : St} {K : St → SV → Prop} {ag ag' : Bool} {sz sz' : Nat} {z0 : Option (List Value)} {z : List Value} {d : D}
  (ht : tyOf P t = some ⟨ag, sz, z0, .slice e k⟩) (hte : tyOf P e = some ⟨ag', sz', some z, d⟩) (hzl : z.length = k) (hpos : 0 < k)
  (hx : env (look st.fr) x = .que id off n k) (hy : env (look st.fr) y = s2) (hr2 : rowsOf st.hp s2 = some (obl2, m, k, row2)) (ho2 : obl2) (h9 : oneRows m k row2) (hb : blk st.hp id = some (.rows e k n' row)) (hn : off + n ≤ n') (hm : 0 < m) (hsm : off + n + m ≤ 1000000) (hby : bytesOf P e ≤ 100000000) (hid : id ≠ st.nid)
  (hA : K ⟨st.fr, (st.nid, .rows e k (off + n + m) (fun i j => if i < off + n then row i j else row2 (i - (off + n)) j)) :: dropBlk st.hp id, st.nid + 1⟩ (.que st.nid off (n + m) k))
  (hB : K ⟨st.fr, (st.nid, .rows e k (n + m) (fun i j => if i < n then row (off + i) j else row2 (i - n) j)) :: dropBlk st.hp id, st.nid + 1⟩ (.que st.nid 0 (n + m) k)) : OpVC P O (.call ⟨.builtin .append, #[x, y], #[t, t]⟩) st K := by
 intro base okc ns r outs a w o ho hi
 obtain ⟨hts, i, hi', hk⟩ := slice_of' ht
 obtain ⟨zv, hz, hzl'⟩ := zero_of hi' hte
 have hu := hi.env x
 rw [hx] at hu
 have hv := hi.env y
 rw [hy] at hv
 generalize hex : a.eval x = u at hu
 generalize hey : a.eval y = v at hv
 obtain ⟨a2, c2, f2, hv2⟩ := rowsOf_spec (P := P) hi.sat.ok hv hr2 ho2
 have at' : ∀ (b : Blk), blk ((st.nid, b) :: dropBlk st.hp id) st.nid = some b := fun b => by simp [blk]
 have oth : ∀ (b : Blk) (j : Nat), j < st.nid → j ≠ id → blk ((st.nid, b) :: dropBlk st.hp id) j = blk st.hp j := fun b j hj hne => by
  simp only [blk, blk_dropBlk]; rw [if_neg (by omega), if_neg hne]
 have drp : ∀ (b : Blk), blk ((st.nid, b) :: dropBlk st.hp id) id = none := fun b => by simp only [blk, blk_dropBlk]; rw [if_neg hid]; simp
 have keys : ∀ (b : Blk) (j : Nat) (z : Blk), blk ((st.nid, b) :: dropBlk st.hp id) j = some z → j < st.nid + 1 := fun b j z hz => by
  simp only [blk, blk_dropBlk] at hz
  split at hz
  ·omega
  ·split at hz
   ·cases hz
   ·have := hi.keys j z hz; omega
 obtain ⟨v', w', r', hrun, hcase⟩ := que_step (ty := o.type) hi.sat (nid := st.nid) (hpA := (st.nid, .rows e k (off + n + m) (fun i j => if i < off + n then row i j else row2 (i - (off + n)) j)) :: dropBlk st.hp id) (hpB := (st.nid, .rows e k (n + m) (fun i j => if i < n then row (off + i) j else row2 (i - n) j)) :: dropBlk st.hp id) hts hi' hz hk (by rw [hzl']; exact hzl) hpos hu hb hn hm hsm hby (by omega) hv2 h9
  (at' _) (fun j hj => oth _ j hj) (drp _) (at' _) (fun j hj => oth _ j hj) (drp _)
 have e0 : execOp a.eval o = (do pure (.value (← Builtin.append_ #[t, t] o.type #[u, v]))) := by
  obtain ⟨dst, op, type, pos, aft, guard⟩ := o
  simp only [] at ho
  subst ho
  simp [execOp, Go.resolve, Go.invoke, Go.builtin, hex, hey]
 have erun : (execOp a.eval o).run P w = .ok (.value v') w' := by
  rw [e0]
  simp only [Sem.run_bind, hrun, Result.andThen_ok, Sem.run_pure]
 rcases hcase with ⟨hst, hrep⟩ | ⟨hst, hrep⟩ <;> rw [plus_lt] at hst hrep
 ·refine ⟨v', w', erun, _, r', _, hA, Nat.le_succ _, ?_, hrep⟩
  have := hi.step hst (keys _) (Nat.le_succ _) (d := none) (fun t ht => by cases ht) (.val undef)
  exact this.nid _
 ·refine ⟨v', w', erun, _, r', _, hB, Nat.le_succ _, ?_, hrep⟩
  have := hi.step hst (keys _) (Nat.le_succ _) (d := none) (fun t ht => by cases ht) (.val undef)
  exact this.nid _
theorem seqH_nil {O : Ctx} {ds : List (Option Tmp)} {st : St} {K : St → Prop} : seqH P O ds [] st K = K st := rfl
theorem seqH_op {O : Ctx} {ds : List (Option Tmp)} {d : Option Tmp} {op : Op} {ty : TypeId} {pos : String} {af : Array Edge} {rest : List Oper} {st : St} {K : St → Prop}
  (h : resT P O (Tag.mk : Tag True) (Tag.mk : Tag op) d st.nid st (fun st' => seqH P O ds rest ⟨inD d st'.fr, st'.hp, st'.nid + 1⟩ K) .mk (stepR P (look st.fr) st.hp op)) : seqH P O ds (⟨d, op, ty, pos, af, none⟩ :: rest) st K := .inl h
theorem seqH_hand {O : Ctx} {ds : List (Option Tmp)} {d : Option Tmp} {op : Op} {ty : TypeId} {pos : String} {af : Array Edge} {rest : List Oper} {st : St} {K : St → Prop} (hn : noDef op = true)
  (h : OpVC P O op st fun st' res => seqH P O ds rest (st'.putI d res) K) : seqH P O ds (⟨d, op, ty, pos, af, none⟩ :: rest) st K := .inr ⟨hn, .inl h⟩
end
end Go.Sx
end
section
set_option linter.unusedVariables false
set_option linter.unusedSimpArgs false
namespace Go.Sx
open Go.RowKit
section
variable {P : Program} {O : Ctx} {base : World} {okc : Nat → Prop} {ns : Nat} {outs : Outs}
def drawOkU (m : Nat) (ops : List Oper) : Bool :=
 (edgesOk 0 ops && apartOk (dsts ops) (masks [] ops) ops) && (tailOk (masks [] ops) m ops.length && (decide (m ≤ ops.length) && (ops.take m).all (fun o => calm o.op)))
theorem draw_okU {ro : Option Nat} {ops : Array Oper} {id : Nat} {Q : Exit → Act → World → Prop} {st : St} {K : St → Prop} {a : Act} {w : World} (hm : P.follows .mixedOrders = true) (m : Nat) (hok : drawOkU m ops.toList = true) (hd : ops.toList.all (dstIn ns) = true)
  (h : Inv O base okc ns st.nid outs st a w) (hk : opsVC P O False (dsts ops.toList) (ops.toList.take m) 0 st fun st' => opsVC P O True (dsts ops.toList) (ops.toList.drop m) m st' K)
  (hK : ∀ st' a' w', K st' → Inv O base okc ns (st'.nid + ops.toList.length) outs st' a' w' → Q .normal a' w') : (Code.region id ops true).wpIn (FR ro) 0 P Q a w := by
 obtain ⟨r0, h0⟩ := h
 generalize hl : ops.toList = l at hok hd hk hK
 have hn : ops.size = l.length := by rw [← hl]; simp
 have hget : ∀ j : Nat, ops[j]? = l[j]? := fun j => by rw [← hl]; simp
 simp only [drawOkU, Bool.and_eq_true, decide_eq_true_eq, List.all_eq_true] at hok
 obtain ⟨⟨hedge, hapart⟩, htail0, hml, hcalm⟩ := hok
 have hedge := edgesOk_spec hedge
 have htail : ∀ j, j < l.length → m ≤ j → (masks [] l).getD j 0 = 2 ^ j - 1 := fun j hj hjm => by
  simp only [tailOk, List.all_eq_true, List.mem_range] at htail0
  have := htail0 j hj
  simp only [Bool.or_eq_true, decide_eq_true_eq] at this
  exact this.resolve_left (by omega)
 have hk' : opsVC P O False (dsts l) (l.take m ++ []) 0 st (fun st' => opsVC P O True (dsts l) (l.drop m) m st' K) := by rw [List.append_nil]; exact hk
 obtain ⟨rs, st1, htr, hn1, hk1⟩ := resolve (l.take m) 0 st hcalm (fun h => h.elim) hk'
 have hlen : (l.take m).length = m := by simp; omega
 have hk1 : opsVC P O True (dsts l) (l.drop m) m st1 K := hk1
 obtain ⟨hsub, hkeys, hF1, hops⟩ := trun_spec htr (by simpa using h0.keys)
 rw [hlen] at hF1
 have hdstm : ∀ j, j < m → nth (dsts (l.take m)) j = nth (dsts l) j := fun j hj => dsts_take l m j hj
 rw [FS_congr hdstm] at hF1
 have hop : ∀ i o, i < m → l[i]? = some o → ∃ wt sv nb hpj, rs[i]? = some (wt, sv, nb) ∧ (∀ id x, blk hpj id = some x → blk st1.hp id = some x) ∧
   ((wt = false ∧ gval (dsts l) o.guard (FS (nth (dsts l)) (resOf rs) (fun _ => true) (look st.fr) i) = some false ∧ sv = undefSV ∧ nb = none) ∨
    (wt = true ∧ gval (dsts l) o.guard (FS (nth (dsts l)) (resOf rs) (fun _ => true) (look st.fr) i) = some true ∧ OpRun P (FS (nth (dsts l)) (resOf rs) (fun _ => true) (look st.fr) i) hpj (st.nid + i) o sv nb ∧ ∀ b, nb = some b → blk st1.hp (st.nid + i) = some b)) := by
  intro i o hi ho
  obtain ⟨wt, sv, nb, hpj, h1, h2, h3⟩ := hops i o (by rw [List.getElem?_take_of_lt hi]; exact ho)
  rw [FS_congr (fun j hj => hdstm j (by omega)), Nat.zero_add] at h3
  exact ⟨wt, sv, nb, hpj, h1, h2, h3⟩
 have hclosed : ∀ (S : Nat → Bool) (i : Nat), Closed l S → (∃ o, l[i]? = some o ∧ ∀ e ∈ o.after, Region.binds .any e = true → S e.on = true) → Closed l (fun j => S j || decide (j = i)) := by
  rintro S i hc ⟨o, ho, he⟩ j oj hoj hS e hm' hb
  simp only [Bool.or_eq_true, decide_eq_true_eq] at hS ⊢
  rcases hS with hS | hS
  ·exact .inl (hc j oj hoj hS e hm' hb)
  ·subst hS
   rw [ho] at hoj; cases hoj
   exact .inl (he e hm' hb)
 have hready : ∀ (listed : Array Bool) (i : Nat), listed.size = l.length → i ∈ Region.ready .any ops listed → i < l.length ∧ listed.getD i false = false ∧ ∃ o, l[i]? = some o ∧ ∀ e ∈ o.after, Region.binds .any e = true → listed.getD e.on false = true := by
  intro listed i hsz hi
  obtain ⟨h1, o, h2, h3⟩ := mem_ready.1 hi
  rw [hget] at h2
  have hlt : i < l.length := (List.getElem?_eq_some_iff.1 h2).1
  refine ⟨hlt, ?_, o, h2, h3⟩
  have : i < listed.size := by omega
  simpa [this] using h1
 have hleast : ∀ (listed : Array Bool), listed.size = l.length → ∀ i, i < l.length → listed.getD i false = false → ∃ j, j ≤ i ∧ j ∈ Region.ready .any ops listed := by
  intro listed hsz i
  induction i using Nat.strongRecOn with
  | _ i ih =>
   intro hi hf
   obtain ⟨o, ho⟩ : ∃ o, l[i]? = some o := ⟨l[i], by simp [hi]⟩
   by_cases hall : ∀ e ∈ o.after, Region.binds .any e = true → listed.getD e.on false = true
   ·refine ⟨i, Nat.le_refl _, mem_ready.2 ⟨?_, o, by rw [hget]; exact ho, hall⟩⟩
    have : i < listed.size := by omega
    simpa [this] using hf
   ·have : ∃ e, e ∈ o.after ∧ Region.binds .any e = true ∧ listed.getD e.on false = false := by
     refine Classical.byContradiction fun hno => hall fun e he hb => ?_
     cases hv : listed.getD e.on false with
     | true => rfl
     | false => exact (hno ⟨e, he, hb, hv⟩).elim
    obtain ⟨e, he, hb, hv⟩ := this
    have hlt := hedge i o ho e he hb
    rw [Nat.zero_add] at hlt
    obtain ⟨j, hj, hr⟩ := ih e.on hlt (by omega) hv
    exact ⟨j, by omega, hr⟩
 have hdst : ∀ i o, l[i]? = some o → nth (dsts l) i = o.dst := fun i o ho => by rw [dsts_get, ho]; rfl
 have hdin : ∀ i t, nth (dsts l) i = some t → t < ns := fun i t ht => by
  rw [dsts_get] at ht
  cases ho : l[i]? with
  | none => simp [ho] at ht
  | some o =>
   simp only [ho, Option.bind_some] at ht
   have := List.all_eq_true.1 hd o (List.mem_of_getElem? ho)
   simpa [dstIn, ht] using this
 have tailW : ∀ (fuel j : Nat) (listed : Array Bool) (stj : St) (a : Act) (w : World), m ≤ j → j + fuel = l.length → listed.size = l.length → (∀ i, listed.getD i false = decide (i < j)) → 
   Inv O base okc ns (stj.nid + j) outs stj a w → opsVC P O True (dsts l) (l.drop j) j stj K → wpAnyIn (FR ro) 0 P .any ops Q fuel listed a w := by
  intro fuel
  induction fuel with
  | zero =>
   intro j listed stj a w hmj hjn hsz hlis hinv hvc
   have : l.drop j = [] := by rw [List.drop_eq_nil_iff]; omega
   rw [this] at hvc
   have hjl' : j = l.length := by omega
   refine ⟨?_, hK stj a w hvc (by rw [← hjl']; exact hinv)⟩
   cases hr : Region.ready .any ops listed with
   | nil => rfl
   | cons x xs =>
    have := hready listed x hsz (by rw [hr]; exact List.mem_cons_self)
    rw [hlis] at this
    simp at this
    omega
  | succ fuel ih =>
   intro j listed stj a w hmj hjn hsz hlis hinv hvc
   have hjl : j < l.length := by omega
   obtain ⟨o, ho⟩ : ∃ o, l[j]? = some o := ⟨l[j], by simp [hjl]⟩
   have hdrop : l.drop j = o :: l.drop (j + 1) := by
    rw [List.drop_eq_getElem_cons hjl]
    congr 1
    have := List.getElem?_eq_getElem hjl
    rw [ho] at this; simpa using this.symm
   rw [hdrop] at hvc
   refine ⟨fun h => ?_, fun i hi => ?_⟩
   ·obtain ⟨x, hx, hr⟩ := hleast listed hsz j hjl (by rw [hlis]; simp)
    rw [h] at hr; cases hr
   ·obtain ⟨hil, hif, oi, hoi, hie⟩ := hready listed i hsz hi
    have hij : i = j := by
     rw [hlis] at hif
     simp at hif
     refine Classical.byContradiction fun hne => ?_
     have hlt : j < i := by omega
     have hcl : Closed l (fun x => listed.getD x false) := by
      intro x ox hox hS e he hb
      dsimp only at hS ⊢
      rw [hlis] at hS ⊢
      simp only [decide_eq_true_eq] at hS ⊢
      have := hedge x ox hox e he hb
      omega
     have hb : ((masks [] l).getD i 0).testBit j = true := by
      rw [htail i hil (by omega), Nat.testBit_two_pow_sub_one]
      simpa using hlt
     have := masks_closed (hclosed _ i hcl ⟨oi, hoi, hie⟩) hb (by simp)
     simp only [hlis, Bool.or_eq_true, decide_eq_true_eq] at this
     omega
    subst hij
    rw [ho] at hoi; cases hoi
    obtain ⟨r, hinv⟩ := hinv
    have hgo := guard_ok (ops := ops) (st := stj) (a := a) (w := w) hinv (o := o) (by rw [hl]; exact hvc)
    obtain ⟨st', hnid', hinv', hcase⟩ := hgo
    have hdo : dstIn ns o = true := List.all_eq_true.1 hd o (List.mem_of_getElem? ho)
    have hset : ∀ x, (listed.setIfInBounds i true).getD x false = decide (x < i + 1) := fun x => by
     rw [getD_set (by omega), hlis]
     by_cases h1 : x < i <;> by_cases h2 : x = i <;> simp [h1, h2] <;> omega
    unfold wpOpIn
    simp only [hget, ho]
    rcases hcase with ⟨hw, hrun⟩ | ⟨hw, hskip⟩
    ·rw [if_pos hw]
     refine res_ok (i := i) (st := st') (r := r) (by rw [hnid']; exact hinv') hdo (by exact hrun) fun st2 a2 w2 hk2 hn2 _ h2 => ?_
     exact ih (i + 1) _ st2 a2 w2 (by omega) (by omega) (by simpa using hsz) hset h2 hk2
    ·rw [if_neg (by rw [hw]; simp)]
     have hd' : ∀ t, o.dst = some t → t < ns := fun t ht => by simpa [dstIn, ht] using hdo
     have h1 : InvR O base okc ns (stj.nid + i) r outs (st'.put o.dst undefSV) (a.put o.dst undef) w := hinv'.step (Step.refl hinv'.sat) hinv'.keys (Nat.le_refl _) hd' (.val _)
     exact ⟨fun _ _ => trivial, ih (i + 1) _ _ _ _ (by omega) (by omega) (by simpa using hsz) hset (by rw [put_nid, hnid']; exact ⟨r, h1.more (by omega)⟩) hskip⟩
 have preW : ∀ (fuel : Nat) (listed : Array Bool) (a : Act) (w : World), listed.size = l.length → Closed l (fun i => listed.getD i false) → (∀ i, m ≤ i → listed.getD i false = false) → cnt (fun i => listed.getD i false) l.length = fuel →
   Mid O outs base okc ns st.nid m st1.hp (nth (dsts l)) (resOf rs) (look st.fr) (fun i => listed.getD i false) a w → wpAnyIn (FR ro) 0 P .any ops Q fuel listed a w := by
  intro fuel
  induction fuel with
  | zero =>
   intro listed a w hsz hcl hlate hcnt hmid
   have hall := cnt_zero hcnt
   have hml' : m = l.length := by
    refine Classical.byContradiction fun hne => ?_
    have := hall m (by omega)
    rw [hlate m (Nat.le_refl _)] at this
    cases this
   obtain ⟨r, hsat, hrep, hsize, hdef⟩ := hmid
   refine tailW 0 m listed st1 a w (Nat.le_refl _) (by omega) hsz (fun i => ?_) ?_ hk1
   ·by_cases h : i < m
    ·simp only [h, decide_true]; exact hall i (by omega)
    ·simp only [h, decide_false]; exact hlate i (by omega)
   ·have e1 : NS st.nid m (fun i => listed.getD i false) = (· < st.nid + m) := by
     funext x
     simp only [NS, eq_iff_iff]
     constructor
     ·rintro (h | ⟨j, h1, _, h3⟩) <;> omega
     ·intro h
      by_cases hx : x < st.nid
      ·exact .inl hx
      ·exact .inr ⟨x - st.nid, by omega, hall _ (by omega), by omega⟩
    rw [e1] at hsat hrep hdef
    rw [hn1]
    refine ⟨r, hsat, fun x y hy => ?_, fun t => ?_, hsize, Nat.le_trans h0.lo (by omega), hdef.out, hdef.rfix, hdef.defers⟩
    ·rcases hkeys x y hy with h | ⟨j, _, _, _, e, hj⟩
     ·have := h0.keys x y h; omega
     ·omega
    ·have := hrep t
     rw [hF1]
     have e2 : FS (nth (dsts l)) (resOf rs) (fun i => listed.getD i false) (look st.fr) m t = FS (nth (dsts l)) (resOf rs) (fun _ => true) (look st.fr) m t :=
      FS_at (Nat.le_refl _) fun j hj _ => by simp only [hj, iff_true]; exact hall j (by omega)
     rw [← e2]; exact this
  | succ fuel ih =>
   intro listed a w hsz hcl hlate hcnt hmid
   by_cases hall : ∀ i, i < m → listed.getD i false = true
   ·
    have hc := cnt_tail (S := fun i => listed.getD i false) hall hlate hml
    obtain ⟨r, hsat, hrep, hsize, hdef⟩ := hmid
    refine tailW (fuel + 1) m listed st1 a w (Nat.le_refl _) (by omega) hsz (fun i => ?_) ?_ hk1
    ·by_cases h : i < m
     ·simp only [h, decide_true]; exact hall i h
     ·simp only [h, decide_false]; exact hlate i (by omega)
    ·have e1 : NS st.nid m (fun i => listed.getD i false) = (· < st.nid + m) := by
      funext x
      simp only [NS, eq_iff_iff]
      constructor
      ·rintro (h | ⟨j, h1, _, h3⟩) <;> omega
      ·intro h
       by_cases hx : x < st.nid
       ·exact .inl hx
       ·exact .inr ⟨x - st.nid, by omega, hall _ (by omega), by omega⟩
     rw [e1] at hsat hrep hdef
     rw [hn1]
     refine ⟨r, hsat, fun x y hy => ?_, fun t => ?_, hsize, Nat.le_trans h0.lo (by omega), hdef.out, hdef.rfix, hdef.defers⟩
     ·rcases hkeys x y hy with h | ⟨j, _, _, _, e, hj⟩
      ·have := h0.keys x y h; omega
      ·omega
     ·have := hrep t
      rw [hF1]
      have e2 : FS (nth (dsts l)) (resOf rs) (fun i => listed.getD i false) (look st.fr) m t = FS (nth (dsts l)) (resOf rs) (fun _ => true) (look st.fr) m t :=
       FS_at (Nat.le_refl _) fun j hj _ => by simp only [hj, iff_true]; exact hall j hj
      rw [← e2]; exact this
   ·obtain ⟨x, hx⟩ : ∃ x, x < m ∧ listed.getD x false = false := by
     refine Classical.byContradiction fun hno => hall fun i hi => ?_
     cases hv : listed.getD i false with
     | true => rfl
     | false => exact (hno ⟨i, hi, hv⟩).elim
    refine ⟨fun h => ?_, fun i hi => ?_⟩
    ·obtain ⟨y, _, hr⟩ := hleast listed hsz x (by omega) hx.2
     rw [h] at hr; cases hr
    ·obtain ⟨hil, hif, o, ho, hie⟩ := hready listed i hsz hi
     have hcl' := hclosed _ i hcl ⟨o, ho, hie⟩
     have him : i < m := by
      refine Classical.byContradiction fun hne => ?_
      have hb : ((masks [] l).getD i 0).testBit x = true := by
       rw [htail i hil (by omega), Nat.testBit_two_pow_sub_one]
       simp; omega
      have := masks_closed hcl' hb (by simp)
      simp only [Bool.or_eq_true, decide_eq_true_eq] at this
      rcases this with h | h
      ·rw [hx.2] at h; cases h
      ·omega
     have hlook : ∀ t, t ∈ seen (dsts l) o → FS (nth (dsts l)) (resOf rs) (fun i => listed.getD i false) (look st.fr) m t = FS (nth (dsts l)) (resOf rs) (fun _ => true) (look st.fr) i t := by
      intro t ht
      refine FS_at (by omega) fun j hj hdj => ?_
      obtain ⟨oj, hoj⟩ : ∃ oj, l[j]? = some oj := ⟨l[j], by simp [show j < l.length by omega]⟩
      constructor
      ·intro hS
       refine Classical.byContradiction fun hge => ?_
       by_cases e : j = i
       ·subst e
        rw [hif] at hS; cases hS
       ·rcases apartOk_spec hapart ho hoj (by omega) with hb | ⟨_, hb⟩
        ·have := masks_closed hcl hb hS
         rw [hif] at this; cases this
        ·exact hb t hdj ht
      ·intro hlt
       rcases apartOk_spec hapart hoj ho hlt with hb | ⟨hb, _⟩
       ·have := masks_closed hcl' hb (by simp)
        simp only [Bool.or_eq_true, decide_eq_true_eq] at this
        exact this.resolve_right (by omega)
       ·exact (hb t hdj ht).elim
     obtain ⟨wt, sv, nb, hpj, hrs, hsubj, hcase⟩ := hop i o him ho
     have hri : resOf rs i = sv := by simp [resOf, hrs]
     obtain ⟨r, hsat, hrep, hsize, hdef⟩ := hmid
     have hdsti := hdst i o ho
     have hS : ∀ x, (listed.setIfInBounds i true).getD x false = (listed.getD x false || decide (x = i)) := fun x => getD_set (by omega)
     have hlater : ∀ t, nth (dsts l) i = some t → ∀ j, j < m → i < j → nth (dsts l) j = some t → listed.getD j false = false := by
      intro t hdi j hj hij hdj
      obtain ⟨oj, hoj⟩ : ∃ oj, l[j]? = some oj := ⟨l[j], by simp [show j < l.length by omega]⟩
      cases hv : listed.getD j false with
      | false => rfl
      | true =>
       rcases apartOk_spec hapart ho hoj hij with hb | ⟨_, hb⟩
       ·have := masks_closed hcl hb hv
        rw [hif] at this; cases this
       ·refine (hb t hdj ?_).elim
        simp only [seen, List.mem_append]
        rw [hdsti] at hdi
        simp [hdi]
     have next : ∀ (v : Value) (r' : Nat → Option Nat) (w' : World), Step base okc r (NS st.nid m fun i => listed.getD i false) st1.hp w r' (NS st.nid m fun x => (listed.setIfInBounds i true).getD x false) st1.hp w' →
       Rep r' (NS st.nid m fun x => (listed.setIfInBounds i true).getD x false) (Gd base okc r' (NS st.nid m fun x => (listed.setIfInBounds i true).getD x false) st1.hp w') w' sv v →
       wpAnyIn (FR ro) 0 P .any ops Q fuel (listed.setIfInBounds i true) (a.put o.dst v) w' := by
      intro v r' w' hs hv
      refine ih _ _ _ (by simpa using hsz) ?_ (fun x hx => ?_) ?_ ?_
      ·have : (fun x => (listed.setIfInBounds i true).getD x false) = fun x => listed.getD x false || decide (x = i) := funext hS
       rw [this]; exact hcl'
      ·rw [hS, hlate x hx]; simp; omega
      ·have := (cnt_set (S := fun i => listed.getD i false) (S' := fun x => (listed.setIfInBounds i true).getD x false) hS hif (n := l.length)).2 hil
       omega
      ·rw [← hdsti]
       exact mid_put hS him hlater hrep hsize hdef h0.lo (hdin i) hs (by rw [hri]; exact hv)
     have hmore : (∀ b, nb ≠ some b) → Step base okc r (NS st.nid m fun i => listed.getD i false) st1.hp w r (NS st.nid m fun x => (listed.setIfInBounds i true).getD x false) st1.hp w := by
      intro hnb
      rw [← NS_set hS him]
      refine hsat.more (fun x hx => .inl hx) fun x y hy hx => ?_
      rcases hx with hx | hx
      ·exact hx
      ·subst hx
       rcases hkeys _ _ hy with h | ⟨j, wt', sv', hj, e, _⟩
       ·have := h0.keys _ _ h; omega
       ·have : j = i := by omega
        subst this
        rw [hrs] at hj
        cases hj
        exact (hnb _ rfl).elim
     have hguard : ∀ b, gval (dsts l) o.guard (FS (nth (dsts l)) (resOf rs) (fun _ => true) (look st.fr) i) = some b → Region.wanted o (yielded ops a.tmps) = b := by
      intro b hg
      cases hog : o.guard with
      | none => rw [hog] at hg; simp only [gval, Option.some.injEq] at hg; subst hg; simp [Region.wanted, hog]
      | some gw =>
       obtain ⟨j, want⟩ := gw
       rw [hog] at hg
       simp only [gval] at hg
       cases ht : nth (dsts l) j with
       | none => simp [ht] at hg
       | some t =>
        have hy := yielded_eq ops a j t (by rw [hl]; exact ht)
        have htn : t ∈ seen (dsts l) o := by simp [seen, gTmps, hog, ht]
        have hrt := hrep t
        rw [hlook t htn] at hrt
        simp only [ht] at hg
        cases hv : FS (nth (dsts l)) (resOf rs) (fun _ => true) (look st.fr) i t with
        | val u =>
         rw [hv] at hg hrt
         have hu : a.tmps.getD t undef = u := by generalize a.tmps.getD t undef = z at hrt; cases hrt; rfl
         simp only [Array.getD_eq_getD_getElem?] at hu
         cases u with
         | bool c =>
          have : yielded ops a.tmps j = some c := by
           rw [hy]
           cases hz : a.tmps[t]? with
           | none => rw [hz] at hu; simp [undef] at hu
           | some z => rw [hz] at hu; simp at hu; rw [hu]
          simp only [Option.some.injEq] at hg
          subst hg
          simp only [Region.wanted, hog, this]
          cases c <;> cases want <;> rfl
         | tuple vs =>
          have : yielded ops a.tmps j = none := by
           rw [hy]
           cases hz : a.tmps[t]? with
           | none => rfl
           | some z => rw [hz] at hu; simp at hu; rw [hu]
          simp only [Option.some.injEq] at hg
          subst hg
          simp [Region.wanted, hog, this]
         | _ => simp at hg
        | _ => rw [hv] at hg; simp at hg
     unfold wpOpIn
     simp only [hget, ho]
     rcases hcase with ⟨_, hg, rfl, rfl⟩ | ⟨_, hg, hrun, hnb⟩
     ·rw [if_neg (by rw [hguard _ hg]; simp)]
      exact ⟨fun _ _ => trivial, next undef r w (hmore (by simp)) (.val _)⟩
     ·rw [if_pos (hguard _ hg)]
      have hca : calm o.op = true := hcalm o (by
       have : (l.take m)[i]? = some o := by rw [List.getElem?_take_of_lt him]; exact ho
       exact List.mem_of_getElem? this)
      have hnd : ∀ c, o.op ≠ .defer c := fun c e => by rw [e] at hca; cases hca
      refine wpIn_of_wp hnd (step_ok hsat (fr := FS (nth (dsts l)) (resOf rs) (fun _ => true) (look st.fr) i) (id := st.nid + i) (hp' := st1.hp) (fun x hx => rep_env x fun t ht => ?_) ?_)
      ·subst ht
       rw [← hlook t (by
        simp only [seen, List.mem_append]
        exact .inl (List.mem_filterMap.2 ⟨.tmp t, by simpa using hx, rfl⟩))]
       exact hrep t
      ·cases hrun with
       | pure obl _ hst hobl =>
        rw [stepR_mono hca hsubj (by rw [hst]; simp), hst]
        refine ⟨hobl, fun v hv => next v r w (hmore (by simp)) ((hmore (by simp)).rep hv)⟩
       | ex obl _ hst hobl =>
        rw [stepR_mono hca hsubj (by rw [hst]; simp), hst]
        exact ⟨sv, hobl, fun v hv => next v r w (hmore (by simp)) ((hmore (by simp)).rep hv)⟩
       | new obl b mk hst hobl =>
        rw [stepR_mono hca hsubj (by rw [hst]; simp), hst]
        refine ⟨hobl, ?_, hnb b rfl, fun _ _ => rfl, fun v w' r' hs hv => ?_⟩
        ·rintro (h | ⟨j, h1, h2, h3⟩)
         ·omega
         ·have : j = i := by omega
          subst this
          dsimp only at h2
          rw [hif] at h2; cases h2
        ·rw [NS_set hS him] at hs hv
         exact next v r' w' hs hv
       | call f args pats _ hst hc hs =>
        rw [stepR_mono hca hsubj (by rw [hst]; simp), hst]
        refine .inl ⟨pats, sv, hc, hs.imp (fun h => ⟨subL_mono hsubj _ _ h.1, h.2⟩) (fun h => h), fun v w' hst' hv => ?_⟩
        refine next v r w' (hst'.trans ?_) ?_
        ·rw [← NS_set hS him]
         refine hst'.sat.more (fun x hx => .inl hx) fun x y hy hx => ?_
         rcases hx with hx | hx
         ·exact hx
         ·subst hx
          rcases hkeys _ _ hy with h | ⟨j, wt', sv', hj, e, _⟩
          ·have := h0.keys _ _ h; omega
          ·have : j = i := by omega
           subst this
           rw [hrs] at hj
           cases hj
        ·rw [← NS_set hS him]
         refine (hst'.sat.more (fun x hx => .inl hx) fun x y hy hx => ?_).rep hv
         rcases hx with hx | hx
         ·exact hx
         ·subst hx
          rcases hkeys _ _ hy with h | ⟨j, wt', sv', hj, e, _⟩
          ·have := h0.keys _ _ h; omega
          ·have : j = i := by omega
           subst this
           rw [hrs] at hj
           cases hj
       | callN f args pats b res hst hc hs =>
        rw [stepR_mono hca hsubj (by rw [hst]; simp), hst]
        refine .inr ⟨pats, b, res, hc, hs.mono hsubj, ?_, st1.hp, hnb b rfl, fun _ _ => rfl, fun v w' r' hs hv => ?_⟩
        ·rintro (h | ⟨j, h1, h2, h3⟩)
         ·omega
         ·have : j = i := by omega
          subst this
          dsimp only at h2
          rw [hif] at h2; cases h2
        ·rw [NS_set hS him] at hs hv
         exact next v r' w' hs hv
 refine wpIn_region_any hm ?_
 rw [hn]
 have hrep0 : ∀ i, (Array.replicate l.length false).getD i false = false := fun i => by simp only [Array.getD_eq_getD_getElem?, Array.getElem?_replicate]; split <;> rfl
 refine preW l.length (Array.replicate l.length false) a _ (by simp) ?_ (fun i _ => hrep0 i) ?_ ?_
 ·intro j o ho hS; simp only [hrep0] at hS; cases hS
 ·have key : ∀ n, cnt (fun i => (Array.replicate l.length false).getD i false) n = n := by
   intro n
   induction n with
   | zero => rfl
   | succ n ihn =>
    simp only [cnt, ihn]
    rw [if_neg (by rw [hrep0]; simp)]
  exact key _
 ·have hN : NS st.nid m (fun i => (Array.replicate l.length false).getD i false) = (· < st.nid) := by
   funext x
   simp only [NS, eq_iff_iff]
   constructor
   ·rintro (h | ⟨j, _, h2, _⟩)
    ·exact h
    ·rw [hrep0] at h2; cases h2
   ·exact .inl
  have hdrew : Below w.heap.size w { w with drawn := w.drawn + 1 } := ⟨rfl, rfl, rfl, Nat.le_refl _, fun _ _ => rfl⟩
  have hst := h0.sat.grow hdrew
  unfold Mid
  rw [hN]
  have hs2 : Step base okc r0 (· < st.nid) st.hp { w with drawn := w.drawn + 1 } r0 (· < st.nid) st1.hp { w with drawn := w.drawn + 1 } := by
   have hback : ∀ x y, blk st1.hp x = some y → x < st.nid → blk st.hp x = some y := fun x y hy hx => by
    rcases hkeys x y hy with h | ⟨j, _, _, _, e, _⟩
    ·exact h
    ·omega
   have hG : ∀ o c, Gd base okc r0 (· < st.nid) st.hp { w with drawn := w.drawn + 1 } o c → Gd base okc r0 (· < st.nid) st1.hp { w with drawn := w.drawn + 1 } o c ∧ ({ w with drawn := w.drawn + 1 } : World).heap[c]? = ({ w with drawn := w.drawn + 1 } : World).heap[c]? :=
    fun o c ⟨h1, h2, h3⟩ => ⟨⟨h1, fun i y hy hi => h2 i y (hback i y hy hi) hi, h3⟩, rfl⟩
   exact ⟨⟨hst.sat.below, fun i y hy hi => (hst.sat.rep i y (hback i y hy hi) hi).mono (fun _ _ => rfl) (fun _ h => h) hG (Shapes.refl _) (fun _ _ => rfl),
    fun i y b hy hi => hst.sat.own i y b (hback i y hy hi) hi, fun i y i' y' b hy hi hy' hi' => hst.sat.inj i y i' y' b (hback i y hy hi) hi (hback i' y' hy' hi') hi'⟩, fun _ _ => rfl, fun _ h => h, hG, Shapes.refl _⟩
  refine ⟨r0, hs2.sat, fun t => ?_, h0.size, ((Ext.mk h0.out h0.rfix h0.defers).step0 hst (fun i hi => Nat.lt_of_lt_of_le hi h0.lo)).step0 hs2 (fun i hi => Nat.lt_of_lt_of_le hi h0.lo)⟩
  have e : FS (nth (dsts l)) (resOf rs) (fun i => (Array.replicate l.length false).getD i false) (look st.fr) m t = look st.fr t := by
   have := FS_at (dst := nth (dsts l)) (res := resOf rs) (S := fun i => (Array.replicate l.length false).getD i false) (F := look st.fr) (i := 0) (t := t) (Nat.zero_le m) (fun j hj _ => by rw [hrep0]; simp)
   exact this
  rw [e]
  exact hs2.rep (hst.rep (h0.fr t))
theorem tailRegion (hm : P.follows .mixedOrders = true) {st : St} {K : Ex → St → Prop} {id : Nat} {ops : List Oper} (m : Nat) (hok : drawOkU m ops = true) {g : Tag K}
  (hk : opsVC P O False (dsts ops) (ops.take m) 0 st fun st1 => opsVC P O True (dsts ops) (ops.drop m) m st1 fun st' => K .normal ⟨st'.fr, st'.hp, st'.nid + ops.length⟩) : HandT P O id ops true st K g := by
 intro base okc ns outs a w ro Q hro hc hi hK
 simp only [codeOkF, Bool.and_eq_true] at hc
 obtain ⟨hd, -⟩ := hc
 refine draw_okU hm m (by simpa using hok) (by simpa using hd) hi (by simpa using hk) fun st' a' w' hk' hi' => ?_
 refine hK .normal _ a' w' hk' ?_
 obtain ⟨r, h⟩ := hi'
 exact ⟨r, by simpa using h.nid (st'.nid + ops.length)⟩
end
section
variable {P : Program} {O : Ctx} {base : World} {okc : Nat → Prop} {ns : Nat} {outs : Outs}
set_option maxHeartbeats 1000000 in
theorem range_vcH (hm : P.follows .mixedOrders = true) (hO : O.rnd = false) {far2 : Nat → List (Nat × Nat)} {x : Operand} {ps : List Tmp} {A B : Code} {st : St} {K : Ex → St → Prop} {gf : FuncId} {caps : List SV} {fn : Func} {c : Code} (hg : env (look st.fr) x = .fn (.func gf) [] caps) (hf : P.funcs[gf]? = some fn) (hb : fn.body = some c)
  (hname : (fn.name == "runtime.NumGoroutine") = false) (hok : codeOkF far2 fn.ntmps c = true) (hres : fn.results.toList = []) (hlen : caps.length + 1 ≤ fn.ntmps)
  (h : ∀ (out : List Fr) (L : Loop), RecOkF O.far out L st.fr ps A B → vc P ⟨out, st.nid + 1, false, far2⟩ c ⟨argFr 0 (.yld st.nid :: caps), (st.nid, .loop L .ready) :: st.hp, st.nid + 1⟩ (rangeEnd st.nid L st.fr K)) : RawVC P O (.rangeFunc x ps.toArray A B) st K := by
 intro base okc ns outs a w ro Q hro hc hinv hQ
 obtain ⟨r, hi⟩ := hinv
 have hro0 : ro = none := by rw [hO] at hro; cases ro <;> simp at hro ⊢
 subst hro0
 simp only [codeOkF, Bool.and_eq_true] at hc
 refine wpIn_rangeFunc fun fn0 _ => ?_
 have hx := hi.env x
 rw [hg] at hx
 generalize hex : a.eval x = u at hx
 cases hx with
 | fn _ _ _ cs ds hl hmm h1 h2 =>
 have hcs : cs = #[] := Array.eq_empty_of_size_eq_zero (by simpa using hl.symm)
 subst hcs
 generalize hW1 : w.alloc (.deferred (some [])) = W1
 have hz1 : W1.heap.size = w.heap.size + 1 := by rw [← hW1]; simp
 have hgrow : Step base okc r (· < st.nid) st.hp w r (· < st.nid) st.hp W1 := by rw [← hW1]; exact hi.sat.grow ((Below.refl _ w).alloc (Nat.le_refl _) _)
 obtain ⟨L, hL⟩ : ∃ L : Loop, L = { state := .ready, pending := none, fn := fn0, tmps := a.tmps, params := ps.toArray, assign := A, body := B, defers := w.heap.size } := ⟨_, rfl⟩
 have hLr : ({ L with state := RSt.ready.state, pending := RSt.ready.pend } : Loop) = L := by rw [hL]; rfl
 have hi1 : InvR O base okc ns st.nid r outs st a W1 := hi.step hgrow hi.keys (Nat.le_refl _) (d := none) (fun t ht => by cases ht) (.top undef)
 have hnew : Step base okc r (· < st.nid) st.hp W1 (upd r st.nid (some W1.heap.size)) (plus (· < st.nid) st.nid) ((st.nid, .loop L .ready) :: st.hp) (W1.alloc (.loop L)) :=
  hi1.sat.new st.nid (by simp) (.loop L) (.loop L .ready) (by simp [blk]) (fun j hj => by simp only [blk]; rw [if_neg (by omega)]) fun r' N' G' _ _ _ _ _ => .loop L .ready _ (by rw [hLr]; exact heap_alloc_at W1 _)
 rw [plus_lt] at hnew
 have hi2 : InvR O base okc ns (st.nid + 1) (upd r st.nid (some W1.heap.size)) outs ⟨st.fr, (st.nid, .loop L .ready) :: st.hp, st.nid⟩ a (W1.alloc (.loop L)) :=
  hi1.step hnew (fun id y hy => by
   simp only [blk] at hy
   split at hy
   ·omega
   ·have := hi1.keys id y hy; omega) (by omega) (d := none) (fun t ht => by cases ht) (.top undef)
 have hD : (W1.alloc (.loop L)).heap[w.heap.size]? = some (.deferred (some [])) := by
  rw [heap_alloc_old _ _ (by omega), ← hW1]; exact heap_alloc_at w _
 have hi3 : InvR O base okc ns (st.nid + 1) (upd r st.nid (some W1.heap.size)) outs ⟨st.fr, (st.nid, .loop L .ready) :: st.hp, st.nid⟩ { a with defers := [cDef w.heap.size] ++ a.defers } (W1.alloc (.loop L)) := by
  refine ⟨hi2.sat, hi2.keys, hi2.fr, hi2.size, hi2.lo, hi2.out, hi2.rfix, ?_⟩
  obtain ⟨Ds, e1, e2, e3⟩ := hi2.defers
  obtain ⟨Ds0, f1, f2, f3⟩ := hi.defers
  have hDs : Ds = Ds0 := by
   have : Ds.map cDef = Ds0.map cDef := by rw [← e1, ← f1]
   exact (List.map_inj_right (fun _ _ => cDef_inj)).1 this
  subst hDs
  refine ⟨w.heap.size :: Ds, by simp [allD] at e1 ⊢; exact e1, List.nodup_cons.2 ⟨fun hin => ?_, e2⟩, fun D hDin => ?_⟩
  ·have := (f3 _ hin).1.1; omega
  ·rcases List.mem_cons.1 hDin with e | e
   ·subst e
    refine ⟨⟨by simp; omega, fun id y hy hid => ?_, ?_⟩, hD⟩
    ·simp only [blk] at hy
     split at hy
     ·rename_i e; subst e
      rw [upd_same]
      intro e; simp only [Option.some.injEq] at e; omega
     ·rename_i e
      rw [upd_other _ e]
      intro e'
      have := hi.sat.lt hy (hi.keys _ _ hy) e'
      omega
    ·simp only [if_true]; exact hi.sat.below.size
   ·exact e3 D e
 obtain ⟨vs, hvs⟩ : ∃ vs : Array Value, vs = #[Value.func (Fn.yield W1.heap.size) #[] #[]] ++ ds := ⟨_, rfl⟩
 have hvsz : vs.size = ds.size + 1 := by rw [hvs]; simp; omega
 have hargs : ∀ (i : Nat) (sv : SV), (SV.yld st.nid :: caps)[i]? = some sv → Rep (upd r st.nid (some W1.heap.size)) (· < st.nid + 1) (Gd base okc (upd r st.nid (some W1.heap.size)) (· < st.nid + 1) ((st.nid, .loop L .ready) :: st.hp) (W1.alloc (.loop L))) (W1.alloc (.loop L)) sv (vs.getD i undef) := by
  intro i sv hi'
  cases i with
  | zero =>
   rw [List.getElem?_cons_zero] at hi'
   cases hi'
   have e : vs.getD 0 undef = Value.func (Fn.yield W1.heap.size) #[] #[] := by
    rw [hvs, Array.getD_eq_getD_getElem?, Array.getElem?_append_left (by simp)]; rfl
   rw [e]
   exact .yld _ _ (Nat.lt_succ_self _) (upd_same _ _ _)
  | succ i =>
   rw [List.getElem?_cons_succ] at hi'
   have e : vs.getD (i + 1) undef = ds.getD i undef := by
    rw [hvs]
    simp only [Array.getD_eq_getD_getElem?]
    rw [Array.getElem?_append_right (by simp)]
    simp
   rw [e]
   exact hnew.rep (hgrow.rep (h2 i sv hi'))
 have hfr := args_fr (args := SV.yld st.nid :: caps) (vs := vs) (n := fn.ntmps) (by rw [hvsz, List.length_cons, hmm]) (by omega) hargs
 have hpush := hi3.pushF far2 (some L) (fun L' e => by cases e; rw [hL]) false (fr := argFr 0 (.yld st.nid :: caps)) (a2 := { tmps := vs ++ Array.replicate (fn.ntmps - vs.size) undef, defers := [] }) (n2 := fn.ntmps) (nid := st.nid + 1) hfr (by simp; omega) rfl
 refine ⟨w.heap.size + 1, [cDef w.heap.size], W1.alloc (.loop L), { target := .fn (.func gf) ds, args := #[.func (.yield (w.heap.size + 1)) #[] #[]] }, W1.alloc (.loop L), gf,
  vs, W1.alloc (.loop L), ?_, ?_, fun _ _ => trivial, ?_, fun hh => by simp [FR] at hh, ?_⟩
 ·rw [hL, ← hW1]; exact run_enterLoop_outer _ _ _ _ _
 ·simp only [Go.resolve, hex]
  simp [Deferred.ofValue, Act.eval]
 ·rw [hvs, hz1]
  exact run_callFunc hf hb hname _ _
 rw [← hz1]
 refine calls_FR.2 (calls_of_vc hm hf hb hok (O := ⟨⟨st.fr, some L, ns, st.nid + 1⟩ :: O.fs, st.nid + 1, false, far2⟩) (outs := ⟨_, _⟩) (base := base) (okc := okc) (st0 := ⟨argFr 0 (.yld st.nid :: caps), (st.nid, .loop L .ready) :: st.hp, st.nid + 1⟩) rfl
  (Post := fun st' _ => rangeEnd st.nid L st.fr K .normal st') ⟨_, hpush⟩ ?_ fun st' r' a' w' m us hP hi4 hml hreps => ?_)
 ·have e : (fun (e : Ex) (st' : St) => match e with | .exit _ => False | _ => resultsVC P fn.results.toList st' (fun _ => rangeEnd st.nid L st.fr K .normal st')) = rangeEnd st.nid L st.fr K := by
   funext e st'
   cases e
   ·exact resultsVC_nil hres _ _
   ·rfl
   ·exact resultsVC_nil hres _ _
  have hh := h _ L ⟨ns, st.nid + 1, O.fs, rfl, hc.1.1, hc.1.2, by simpa using hc.2, by rw [hL], by rw [hL], by rw [hL]⟩
  rw [← e] at hh
  exact hh
 ·obtain ⟨s, hbs, hs⟩ := rangeFin_eq hP
  have er : r' st.nid = some W1.heap.size := by
   rw [hi4.rfix st.nid (Nat.lt_succ_self _)]; exact upd_same _ _ _
  obtain ⟨g1, t1⟩ := rec_turn (s' := .over s.pend) hi4 hbs er
  have hback := (t1.forget st.nid).popF (nid := st'.nid) hi3
  have hsame : dropBlk (setBlk st'.hp st.nid (.loop L (.over s.pend))) st.nid = dropBlk st'.hp st.nid := by
   have : ∀ (hp : List (Nat × Blk)) (y : Nat) (x : Blk), dropBlk (setBlk hp y x) y = dropBlk hp y := by
    intro hp y x
    induction hp with
    | nil => rfl
    | cons p hp ih =>
     obtain ⟨i, v⟩ := p
     simp only [setBlk, dropBlk]
     by_cases e : y = i
     ·simp [e, dropBlk]
     ·simp [e, dropBlk, ih]
   exact this _ _ _
  simp only [hsame] at hback
  have hnb : s.state ≠ .busy := by cases s <;> simp [RSt.state] <;> exact hs
  refine ⟨s.pend, _, run_endLoop g1 hnb, ?_⟩
  have fin : ∀ e, K e ⟨st.fr, dropBlk st'.hp st.nid, st'.nid⟩ → Q (toExit e) { a with defers := [cDef w.heap.size] ++ a.defers } (w'.putObj W1.heap.size (.loop { L with state := .exhausted, pending := s.pend })) := fun e hk => hQ e _ _ _ hk ⟨r', hback⟩
  cases s with
  | ready => exact fin .normal hs
  | busy => exact hs.elim
  | retd => exact wpIn_ret (fin .ret hs)
  | left i => exact wpIn_exit (fin (.exit i) hs)
  | over p => exact hs.elim
end
section
variable {P : Program} {O : Ctx} {J : Prop} {j : Tag J}
theorem rangeIH (hm : P.follows .mixedOrders = true) {fs : List Fr} {lo : Nat} {far : Nat → List (Nat × Nat)} (far2 : Nat → List (Nat × Nat)) {x : Operand} {ps : List Tmp} {A B : Code} {fr : List (Nat × SV)} {hp : List (Nat × Blk)} {nid : Nat} {K : Ex → St → Prop} {g : Tag K} {gf : FuncId} {caps : List SV} {fn : Func} {c : Code} (hg : env (look fr) x = .fn (.func gf) [] caps) (hf : P.funcs[gf]? = some fn) (hb : fn.body = some c)
  (hname : (fn.name == "runtime.NumGoroutine") = false) (hok : codeOkF far2 fn.ntmps c = true) (hres : fn.results.toList = []) (hlen : caps.length + 1 ≤ fn.ntmps)
  (h : ∀ (out : List Fr) (L : Loop), RecOkF far out L fr ps A B → vc P ⟨out, nid + 1, false, far2⟩ c ⟨argFr 0 (.yld nid :: caps), (nid, .loop L .ready) :: hp, nid + 1⟩ (rangeEnd nid L fr K)) : RawT P ⟨fs, lo, false, far⟩ (.rangeFunc x ps.toArray A B) ⟨fr, hp, nid⟩ K g :=
 range_vcH hm rfl hg hf hb hname hok hres hlen h
end
end Go.Sx
end
