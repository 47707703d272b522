/- The proof engine. -/
import Derived.WalkKit
import Derived.Laws.StructEq
import Derived.ChangeKeysEq
import Derived.WalkSpells
import Derived.Laws.MakeOwn
import Derived.Great.BuildSlice
import Derived.Laws.Tables
section
set_option linter.unusedVariables false
namespace Go.Sx
open Go.RowKit
inductive SV : Type
 | top
 | val (v : Value)
 | agg (l : List SV)
 | tup (l : List SV)
 | fn (f : Fn) (first caps : List SV)
 | ptr (id off : Nat)
 | elt (id k i j : Nat)
 | ref (o : Bool) (n : Nat) (row : Nat → SV)
 | arr (o full : Bool) (n k : Nat) (row : Nat → Nat → SV)
 | vec (id n k : Nat)
 | mp (id : Nat)
 | asl (id off n k : Nat)
 | que (id off n k : Nat)
 | cut (id n k : Nat)
 | cmp (o : Bool) (fit dom : Value → Bool) (get : Value → SV)
 | yld (id : Nat)
instance : Inhabited SV := ⟨.top⟩
structure MapOf (fit dom : Value → Bool) (es : Array MapEntry) : Prop where
 once : ∀ (i j : Nat) (e f : MapEntry), es[i]? = some e → es[j]? = some f → e.key = f.key → i = j
 fits : ∀ e, e ∈ es → fit e.key = true
 doms : ∀ e, e ∈ es → dom e.key = true
 has : ∀ key, dom key = true → ∃ e, e ∈ es ∧ e.key = key
structure Born (es : Array MapEntry) (clock : Nat) : Prop where
 lt : ∀ e, e ∈ es → e.born < clock
 once : ∀ (i j : Nat) (e f : MapEntry), es[i]? = some e → es[j]? = some f → e.born = f.born → i = j
inductive Rep (r : Nat → Option Nat) (N : Nat → Prop) (G : Bool → Nat → Prop) (w : World) : SV → Value → Prop
 | top (v : Value) : Rep r N G w .top v
 | val (v : Value) : Rep r N G w (.val v) v
 | agg (l : List SV) (cs : Array Value) (hl : l.length = cs.size) (h : ∀ i sv, l[i]? = some sv → Rep r N G w sv (cs.getD i undef)) : Rep r N G w (.agg l) (.agg cs)
 | tup (l : List SV) (cs : Array Value) (hl : l.length = cs.size) (h : ∀ i sv, l[i]? = some sv → Rep r N G w sv (cs.getD i undef)) : Rep r N G w (.tup l) (.tuple cs)
 | fn (f : Fn) (l m : List SV) (cs ds : Array Value) (hl : l.length = cs.size) (hm : m.length = ds.size)
   (h : ∀ i sv, l[i]? = some sv → Rep r N G w sv (cs.getD i undef)) (h' : ∀ i sv, m[i]? = some sv → Rep r N G w sv (ds.getD i undef)) : Rep r N G w (.fn f l m) (.func f cs ds)
 | ptr (id off b : Nat) (hN : N id) (hr : r id = some b) : Rep r N G w (.ptr id off) (.pointer (some ⟨b, off, none⟩))
 | elt (id k i j b : Nat) (hN : N id) (hr : r id = some b) : Rep r N G w (.elt id k i j) (.pointer (some ⟨b, i * k + j, none⟩))
 | ref (o : Bool) (n : Nat) (row : Nat → SV) (b off : Nat) (f : Nat → Value) (hG : G o b) (hc : ∀ j, j < n → w.cell? ⟨b, off + j, none⟩ = some (f j))
   (h : ∀ j, j < n → Rep r N G w (row j) (f j)) : Rep r N G w (.ref o n row) (.pointer (some ⟨b, off, none⟩))
 | arrNil (o full : Bool) (k : Nat) (row : Nat → Nat → SV) (a : Option Addr) (cap : Nat) (hf : full = true → cap = 0) : Rep r N G w (.arr o full 0 k row) (.slice a 0 cap)
 | arr (o full : Bool) (n k : Nat) (row : Nat → Nat → SV) (b off cap : Nat) (f : Nat → Nat → Value) (hG : G o b) (hf : full = true → cap = n) (hcap : n ≤ cap)
   (hc : ∀ i j, i < n → j < k → w.cell? ⟨b, off + (i * k + j), none⟩ = some (f i j)) (h : ∀ i j, i < n → j < k → Rep r N G w (row i j) (f i j)) :
   Rep r N G w (.arr o full n k row) (.slice (some ⟨b, off, none⟩) n cap)
 | vecNil (id k : Nat) (hN : N id) (hr : r id = none) : Rep r N G w (.vec id 0 k) (.slice none 0 0)
 | vec (id n k b cap : Nat) (cs : Array Value) (t : TypeId) (hN : N id) (hr : r id = some b) (hb : w.heap[b]? = some (.cells cs t (0, 0))) (hs : cs.size = cap * k) (hcap : n ≤ cap) (hm : cap ≤ maxLen) :
   Rep r N G w (.vec id n k) (.slice (some ⟨b, 0, none⟩) n cap)
 | mp (id b : Nat) (hN : N id) (hr : r id = some b) : Rep r N G w (.mp id) (.map (some b))
 | asl (id off n k b cap : Nat) (hN : N id) (hr : r id = some b) (hcap : n ≤ cap) : Rep r N G w (.asl id off n k) (.slice (some ⟨b, off, none⟩) n cap)
 | queNil (id off k : Nat) (a : Option Addr) (hN : N id) : Rep r N G w (.que id off 0 k) (.slice a 0 0)
 | que (id off n k b cap : Nat) (cs : Array Value) (t : TypeId) (hN : N id) (hr : r id = some b) (hb : w.heap[b]? = some (.cells cs t (0, 0))) (hs : cs.size = (off + cap) * k) (hcap : n ≤ cap) (hm : off + cap ≤ maxLen) :
   Rep r N G w (.que id off n k) (.slice (some ⟨b, off * k, none⟩) n cap)
 | cutNil (id k : Nat) (hN : N id) (hr : r id = none) : Rep r N G w (.cut id 0 k) (.slice none 0 0)
 | cut (id n k b : Nat) (hN : N id) (hr : r id = some b) : Rep r N G w (.cut id n k) (.slice (some ⟨b, 0, none⟩) n n)
 | cmp (o : Bool) (fit dom : Value → Bool) (get : Value → SV) (b : Nat) (es : Array MapEntry) (clock : Nat) (hG : G o b) (hb : w.heap[b]? = some (.map es clock)) (hm : MapOf fit dom es)
   (h : ∀ e, e ∈ es → Rep r N G w (get e.key) e.val) : Rep r N G w (.cmp o fit dom get) (.map (some b))
 | yld (id b : Nat) (hN : N id) (hr : r id = some b) : Rep r N G w (.yld id) (.func (.yield b) #[] #[])
def Shapes (w w' : World) : Prop := ∀ (b : Nat) (cs : Array Value) (t : TypeId) (z : Nat × Nat), w.heap[b]? = some (Obj.cells cs t z) → ∃ cs' : Array Value, w'.heap[b]? = some (Obj.cells cs' t z) ∧ cs'.size = cs.size
theorem Shapes.refl (w : World) : Shapes w w := fun _ cs _ _ h => ⟨cs, h, rfl⟩
theorem Shapes.trans {a b c : World} (h : Shapes a b) (k : Shapes b c) : Shapes a c := fun x cs t z hx =>
 let ⟨cs1, h1, e1⟩ := h x cs t z hx
 let ⟨cs2, h2, e2⟩ := k x cs1 t z h1
 ⟨cs2, h2, e2.trans e1⟩
theorem cell_of_block {w w' : World} {b : Nat} (h : w'.heap[b]? = w.heap[b]?) (o : Nat) : w'.cell? ⟨b, o, none⟩ = w.cell? ⟨b, o, none⟩ := World.cell?_of_block (w := w) h
theorem Rep.mono {r r' : Nat → Option Nat} {N N' : Nat → Prop} {G G' : Bool → Nat → Prop} {w w' : World} {sv : SV} {v : Value} (h : Rep r N G w sv v)
  (hr : ∀ id, N id → r' id = r id) (hN : ∀ id, N id → N' id) (hG : ∀ o b, G o b → G' o b ∧ w'.heap[b]? = w.heap[b]?) (hs : Shapes w w') : Rep r' N' G' w' sv v := by
 induction h with
 | top v => exact .top v
 | val v => exact .val v
 | agg l cs hl _ ih => exact .agg l cs hl ih
 | tup l cs hl _ ih => exact .tup l cs hl ih
 | fn f l m cs ds hl hm _ _ ih ih' => exact .fn f l m cs ds hl hm ih ih'
 | ptr id off b h1 h2 => exact .ptr id off b (hN _ h1) ((hr id h1).trans h2)
 | elt id k i j b h1 h2 => exact .elt id k i j b (hN _ h1) ((hr id h1).trans h2)
 | ref o n row b off f hg hc _ ih =>
  obtain ⟨g1, g2⟩ := hG _ _ hg
  exact .ref o n row b off f g1 (fun j hj => (cell_of_block g2 _).trans (hc j hj)) ih
 | arrNil o full k row a cap hf => exact .arrNil o full k row a cap hf
 | arr o full n k row b off cap f hg hf hcap hc _ ih =>
  obtain ⟨g1, g2⟩ := hG _ _ hg
  exact .arr o full n k row b off cap f g1 hf hcap (fun i j hi hj => (cell_of_block g2 _).trans (hc i j hi hj)) ih
 | vecNil id k h1 h2 => exact .vecNil id k (hN _ h1) ((hr id h1).trans h2)
 | vec id n k b cap cs t h1 h2 hb hsz hcap hm =>
  obtain ⟨cs', hb', he⟩ := hs b cs t _ hb
  exact .vec id n k b cap cs' t (hN _ h1) ((hr id h1).trans h2) hb' (he.trans hsz) hcap hm
 | mp id b h1 h2 => exact .mp id b (hN _ h1) ((hr id h1).trans h2)
 | asl id off n k b cap h1 h2 hcap => exact .asl id off n k b cap (hN _ h1) ((hr id h1).trans h2) hcap
 | queNil id off k a h1 => exact .queNil id off k a (hN _ h1)
 | que id off n k b cap cs t h1 h2 hb hsz hcap hm =>
  obtain ⟨cs', hb', he⟩ := hs b cs t _ hb
  exact .que id off n k b cap cs' t (hN _ h1) ((hr id h1).trans h2) hb' (he.trans hsz) hcap hm
 | cutNil id k h1 h2 => exact .cutNil id k (hN _ h1) ((hr id h1).trans h2)
 | cut id n k b h1 h2 => exact .cut id n k b (hN _ h1) ((hr id h1).trans h2)
 | cmp o fit dom get b es clock hg hb hm _ ih =>
  obtain ⟨g1, g2⟩ := hG _ _ hg
  exact .cmp o fit dom get b es clock g1 (g2.trans hb) hm ih
 | yld id b h1 h2 => exact .yld id b (hN _ h1) ((hr id h1).trans h2)
inductive RSt : Type
 | ready
 | busy
 | retd
 | left (id : Nat)
 | over (p : Option Code)
def RSt.state : RSt → LoopState
 | .ready => .ready
 | .busy => .busy
 | .over _ => .exhausted
 | _ => .done
def RSt.pend : RSt → Option Code
 | .retd => some .ret
 | .left id => some (.exit id)
 | .over p => p
 | _ => none
inductive Blk : Type
 | cells (t : TypeId) (l : List SV)
 | rows (t : TypeId) (k n : Nat) (row : Nat → Nat → SV)
 | map (fit dom : Value → Bool) (get : Value → SV)
 | mapS (fit dom : Value → Bool) (get : Value → SV) (stamp : Value → Nat) (clk : Nat)
 | iter (mid since : Nat) (seen : List Nat) (last : Nat)
 | loop (L : Loop) (s : RSt)
structure St : Type where
 fr : List (Nat × SV)
 hp : List (Nat × Blk)
 nid : Nat
def look : List (Nat × SV) → Nat → SV
 | [], _ => .top
 | (i, v) :: l, j => if j = i then v else look l j
def blk : List (Nat × Blk) → Nat → Option Blk
 | [], _ => none
 | (i, v) :: l, j => if j = i then some v else blk l j
def setBlk : List (Nat × Blk) → Nat → Blk → List (Nat × Blk)
 | [], _, _ => []
 | (i, v) :: l, j, u => if j = i then (i, u) :: l else (i, v) :: setBlk l j u
def dropBlk : List (Nat × Blk) → Nat → List (Nat × Blk)
 | [], _ => []
 | (i, v) :: l, j => if j = i then dropBlk l j else (i, v) :: dropBlk l j
def putFr (l : List (Nat × SV)) (j : Nat) (u : SV) : List (Nat × SV) := (j, u) :: l
def putIn : List (Nat × SV) → Nat → SV → List (Nat × SV)
 | [], j, u => [(j, u)]
 | (i, v) :: l, j, u => if j = i then (i, u) :: l else (i, v) :: putIn l j u
def inD : Option Tmp → List (Nat × SV) → List (Nat × SV)
 | some _, (d, v) :: l => putIn l d v
 | some _, [] => []
 | none, l => l
def St.putI (st : St) (d : Option Tmp) (v : SV) : St :=
 match d with
 | some d => { st with fr := putIn st.fr d v }
 | none => st
def St.put (st : St) (d : Option Tmp) (v : SV) : St :=
 match d with
 | some d => { st with fr := putFr st.fr d v }
 | none => st
inductive BlkRep (r : Nat → Option Nat) (N : Nat → Prop) (G : Bool → Nat → Prop) (w : World) : Option Nat → Blk → Prop
 | cells (t : TypeId) (l : List SV) (b : Nat) (cs : Array Value) (hb : w.heap[b]? = some (.cells cs t (0, 0))) (hl : l.length = cs.size)
   (h : ∀ i sv, l[i]? = some sv → Rep r N G w sv (cs.getD i undef)) : BlkRep r N G w (some b) (.cells t l)
 | none (t : TypeId) (k : Nat) (row : Nat → Nat → SV) : BlkRep r N G w none (.rows t k 0 row)
 | rows (t : TypeId) (k n : Nat) (row : Nat → Nat → SV) (b : Nat) (cs : Array Value) (hb : w.heap[b]? = some (.cells cs t (0, 0))) (hl : n * k ≤ cs.size)
   (h : ∀ i j, i < n → j < k → Rep r N G w (row i j) (cs.getD (i * k + j) undef)) : BlkRep r N G w (some b) (.rows t k n row)
 | map (fit dom : Value → Bool) (get : Value → SV) (b : Nat) (es : Array MapEntry) (clock : Nat) (hb : w.heap[b]? = some (.map es clock)) (hm : MapOf fit dom es) (ht : Born es clock)
   (h : ∀ e, e ∈ es → Rep r N G w (get e.key) e.val) : BlkRep r N G w (some b) (.map fit dom get)
 | mapS (fit dom : Value → Bool) (get : Value → SV) (stamp : Value → Nat) (b : Nat) (es : Array MapEntry) (clock : Nat) (hb : w.heap[b]? = some (.map es clock)) (hm : MapOf fit dom es) (ht : Born es clock)
   (hst : ∀ e, e ∈ es → e.born = stamp e.key) (h : ∀ e, e ∈ es → Rep r N G w (get e.key) e.val) : BlkRep r N G w (some b) (.mapS fit dom get stamp clock)
 | iter (mid since : Nat) (seen : List Nat) (last b m : Nat) (hN : N mid) (hr : r mid = some m) (hb : w.heap[b]? = some (.mapIter (some m) since seen.toArray last)) : BlkRep r N G w (some b) (.iter mid since seen last)
 | loop (L : Loop) (s : RSt) (b : Nat) (hb : w.heap[b]? = some (.loop { L with state := s.state, pending := s.pend })) : BlkRep r N G w (some b) (.loop L s)
def Gd (base : World) (okc : Nat → Prop) (r : Nat → Option Nat) (N : Nat → Prop) (hp : List (Nat × Blk)) (w : World) (o : Bool) (b : Nat) : Prop :=
 b < w.heap.size ∧ (∀ id x, blk hp id = some x → N id → r id ≠ some b) ∧ (if o = true then base.heap.size ≤ b else okc b ∨ base.heap.size ≤ b)
structure Sat (base : World) (okc : Nat → Prop) (r : Nat → Option Nat) (N : Nat → Prop) (hp : List (Nat × Blk)) (w : World) : Prop where
 below : Below base.heap.size base w
 rep : ∀ id x, blk hp id = some x → N id → BlkRep r N (Gd base okc r N hp w) w (r id) x
 own : ∀ id x b, blk hp id = some x → N id → r id = some b → base.heap.size ≤ b
 inj : ∀ id x id' x' b, blk hp id = some x → N id → blk hp id' = some x' → N id' → r id = some b → r id' = some b → id = id'
theorem BlkRep.mono {r r' : Nat → Option Nat} {N N' : Nat → Prop} {G G' : Bool → Nat → Prop} {w w' : World} {ob : Option Nat} {x : Blk} (h : BlkRep r N G w ob x)
  (hr : ∀ id, N id → r' id = r id) (hN : ∀ id, N id → N' id) (hG : ∀ o b, G o b → G' o b ∧ w'.heap[b]? = w.heap[b]?) (hs : Shapes w w')
  (hb : ∀ b, ob = some b → w'.heap[b]? = w.heap[b]?) : BlkRep r' N' G' w' ob x := by
 cases h with
 | cells t l b cs hb' hl h => exact .cells t l b cs ((hb b rfl).trans hb') hl fun i sv hi => (h i sv hi).mono hr hN hG hs
 | none t k row => exact .none t k row
 | rows t k n row b cs hb' hl h => exact .rows t k n row b cs ((hb b rfl).trans hb') hl fun i j hi hj => (h i j hi hj).mono hr hN hG hs
 | map fit dom get b es clock hb' hm ht h => exact .map fit dom get b es clock ((hb b rfl).trans hb') hm ht fun e he => (h e he).mono hr hN hG hs
 | mapS fit dom get stamp b es clock hb' hm ht hst h => exact .mapS fit dom get stamp b es clock ((hb b rfl).trans hb') hm ht hst fun e he => (h e he).mono hr hN hG hs
 | iter mid since seen last b m h1 h2 hb' => exact .iter mid since seen last b m (hN _ h1) ((hr _ h1).trans h2) ((hb b rfl).trans hb')
 | loop L s b hb' => exact .loop L s b ((hb b rfl).trans hb')
theorem BlkRep.lt {r : Nat → Option Nat} {N : Nat → Prop} {G : Bool → Nat → Prop} {w : World} {b : Nat} {x : Blk} (h : BlkRep r N G w (some b) x) : b < w.heap.size := by
 cases h with
 | cells t l b cs hb => exact (Array.getElem?_eq_some_iff.1 hb).1
 | rows t k n row b cs hb => exact (Array.getElem?_eq_some_iff.1 hb).1
 | map fit dom get b es clock hb => exact (Array.getElem?_eq_some_iff.1 hb).1
 | mapS fit dom get stamp b es clock hb => exact (Array.getElem?_eq_some_iff.1 hb).1
 | iter mid since seen last b m h1 h2 hb => exact (Array.getElem?_eq_some_iff.1 hb).1
 | loop L s b hb => exact (Array.getElem?_eq_some_iff.1 hb).1
def upd (r : Nat → Option Nat) (id : Nat) (b : Option Nat) : Nat → Option Nat := fun i => if i = id then b else r i
theorem upd_same (r : Nat → Option Nat) (id : Nat) (b : Option Nat) : upd r id b id = b := by simp [upd]
theorem upd_other {r : Nat → Option Nat} {id i : Nat} (b : Option Nat) (h : i ≠ id) : upd r id b i = r i := by simp [upd, h]
theorem heap_alloc_old (w : World) (o : Obj) {b : Nat} (h : b < w.heap.size) : (w.alloc o).heap[b]? = w.heap[b]? := Below.heap_alloc w o b h
theorem heap_alloc_at (w : World) (o : Obj) : (w.alloc o).heap[w.heap.size]? = some o := by
 show (w.heap.push o)[w.heap.size]? = _
 simp
theorem Shapes.alloc (w : World) (o : Obj) : Shapes w (w.alloc o) := fun b cs t z h =>
 ⟨cs, (heap_alloc_old w o (Array.getElem?_eq_some_iff.1 h).1).trans h, rfl⟩
def plus (N : Nat → Prop) (id : Nat) : Nat → Prop := fun i => N i ∨ i = id
structure Step (base : World) (okc : Nat → Prop) (r : Nat → Option Nat) (N : Nat → Prop) (hp : List (Nat × Blk)) (w : World) (r' : Nat → Option Nat) (N' : Nat → Prop) (hp' : List (Nat × Blk)) (w' : World) : Prop where
 sat : Sat base okc r' N' hp' w'
 rr : ∀ i, N i → r' i = r i
 nn : ∀ i, N i → N' i
 gg : ∀ o c, Gd base okc r N hp w o c → Gd base okc r' N' hp' w' o c ∧ w'.heap[c]? = w.heap[c]?
 sh : Shapes w w'
theorem Step.rep {base : World} {okc : Nat → Prop} {r r' : Nat → Option Nat} {N N' : Nat → Prop} {hp hp' : List (Nat × Blk)} {w w' : World} (h : Step base okc r N hp w r' N' hp' w') {sv : SV} {v : Value}
  (hv : Rep r N (Gd base okc r N hp w) w sv v) : Rep r' N' (Gd base okc r' N' hp' w') w' sv v := hv.mono h.rr h.nn h.gg h.sh
theorem Step.refl {base : World} {okc : Nat → Prop} {r : Nat → Option Nat} {N : Nat → Prop} {hp : List (Nat × Blk)} {w : World} (h : Sat base okc r N hp w) : Step base okc r N hp w r N hp w :=
 ⟨h, fun _ _ => rfl, fun _ h => h, fun _ _ h => ⟨h, rfl⟩, Shapes.refl w⟩
theorem Step.trans {base : World} {okc : Nat → Prop} {r r' r'' : Nat → Option Nat} {N N' N'' : Nat → Prop} {hp hp' hp'' : List (Nat × Blk)} {w w' w'' : World} (h : Step base okc r N hp w r' N' hp' w') (k : Step base okc r' N' hp' w' r'' N'' hp'' w'') :
  Step base okc r N hp w r'' N'' hp'' w'' :=
 ⟨k.sat, fun i hi => (k.rr i (h.nn i hi)).trans (h.rr i hi), fun i hi => k.nn i (h.nn i hi), fun o c hc => let ⟨a, b⟩ := h.gg o c hc; let ⟨a', b'⟩ := k.gg o c a; ⟨a', b'.trans b⟩, h.sh.trans k.sh⟩
theorem Sat.lt {base : World} {okc : Nat → Prop} {r : Nat → Option Nat} {N : Nat → Prop} {hp : List (Nat × Blk)} {w : World} (h : Sat base okc r N hp w) {id : Nat} {x : Blk} {b : Nat} (hx : blk hp id = some x) (hN : N id) (hr : r id = some b) : b < w.heap.size :=
 (hr ▸ h.rep id x hx hN : BlkRep _ _ _ _ (some b) x).lt
theorem Sat.new {base : World} {okc : Nat → Prop} {r : Nat → Option Nat} {N : Nat → Prop} {hp hp' : List (Nat × Blk)} {w : World} (h : Sat base okc r N hp w) (id : Nat) (hid : ¬ N id) (o : Obj) (x : Blk)
  (hat : blk hp' id = some x) (hoth : ∀ j, N j → blk hp' j = blk hp j)
  (hx : ∀ r' N' G', (∀ i, N i → r' i = r i) → r' id = some w.heap.size → (∀ i, N i → N' i) → N' id → (∀ o b, Gd base okc r N hp w o b → G' o b) → BlkRep r' N' G' (w.alloc o) (some w.heap.size) x) :
  Step base okc r N hp w (upd r id (some w.heap.size)) (plus N id) hp' (w.alloc o) := by
 have ne : ∀ i, N i → i ≠ id := fun i hi e => hid (e ▸ hi)
 have hr : ∀ i, N i → upd r id (some w.heap.size) i = r i := fun i hi => upd_other _ (ne i hi)
 have hG : ∀ o' b, Gd base okc r N hp w o' b → Gd base okc (upd r id (some w.heap.size)) (plus N id) hp' (w.alloc o) o' b ∧ (w.alloc o).heap[b]? = w.heap[b]? := fun o' b ⟨h1, h2, h3⟩ =>
  ⟨⟨by simp; omega, fun i y hy hN => by
   rcases hN with e | e
   ·rw [hr _ e]; exact h2 i y ((hoth i e).symm.trans hy) e
   ·subst e; rw [upd_same]; intro e; cases e; omega, h3⟩, heap_alloc_old w o h1⟩
 refine ⟨⟨h.below.alloc h.below.size _, fun i y hy hN => ?_, fun i y b hy hN hb => ?_, fun i y i' y' b hy hN hy' hN' hb hb' => ?_⟩, hr, fun i hi => .inl hi, hG, Shapes.alloc w o⟩
 ·rcases hN with e | e
  ·rw [hr _ e]
   rw [hoth i e] at hy
   exact (h.rep _ _ hy e).mono hr (fun i hi => .inl hi) hG (Shapes.alloc w o) fun b hb => heap_alloc_old w o (h.lt hy e hb)
  ·subst e
   rw [upd_same]
   rw [hat] at hy; cases hy
   exact hx _ _ _ hr (upd_same _ _ _) (fun i hi => .inl hi) (.inr rfl) fun o' b hb => (hG o' b hb).1
 ·rcases hN with e | e
  ·rw [hr _ e] at hb; rw [hoth i e] at hy; exact h.own _ _ _ hy e hb
  ·subst e; rw [upd_same] at hb; cases hb; exact h.below.size
 ·rcases hN with e | e <;> rcases hN' with e' | e'
  ·rw [hr _ e] at hb
   rw [hr _ e'] at hb'
   rw [hoth i e] at hy
   rw [hoth i' e'] at hy'
   exact h.inj _ _ _ _ _ hy e hy' e' hb hb'
  ·subst e'
   rw [upd_same] at hb'; cases hb'
   rw [hr _ e] at hb
   rw [hoth i e] at hy
   exact absurd (h.lt hy e hb) (by omega)
  ·subst e
   rw [upd_same] at hb; cases hb
   rw [hr _ e'] at hb'
   rw [hoth i' e'] at hy'
   exact absurd (h.lt hy' e' hb') (by omega)
  ·rw [e, e']
theorem blk_setBlk (hp : List (Nat × Blk)) (id j : Nat) (y : Blk) : blk (setBlk hp id y) j = if j = id then (blk hp id).map (fun _ => y) else blk hp j := by
 induction hp with
 | nil => simp [setBlk, blk]
 | cons p hp ih =>
  obtain ⟨i, v⟩ := p
  simp only [setBlk]
  by_cases e : id = i
  ·subst e
   rw [if_pos rfl]
   simp only [blk]
   by_cases e' : j = id
   ·subst e'; simp
   ·simp [e']
  ·rw [if_neg e]
   simp only [blk, ih]
   by_cases e' : j = i
   ·subst e'
    rw [if_pos rfl, if_neg (Ne.symm e), if_pos rfl]
   ·rw [if_neg e', if_neg e, if_neg e']
theorem blk_dropBlk (hp : List (Nat × Blk)) (id j : Nat) : blk (dropBlk hp id) j = if j = id then none else blk hp j := by
 induction hp with
 | nil => simp [dropBlk, blk]
 | cons p hp ih =>
  obtain ⟨i, v⟩ := p
  simp only [dropBlk]
  by_cases e : id = i
  ·subst e
   rw [if_pos rfl, ih]
   simp only [blk]
   by_cases e' : j = id <;> simp [e']
  ·rw [if_neg e]
   simp only [blk, ih]
   by_cases e' : j = i
   ·subst e'
    rw [if_pos rfl, if_neg (Ne.symm e), if_pos rfl]
   ·rw [if_neg e', if_neg e']
theorem Sat.upd {base : World} {okc : Nat → Prop} {r : Nat → Option Nat} {N : Nat → Prop} {hp : List (Nat × Blk)} {w w' : World} (h : Sat base okc r N hp w) {id : Nat} {x : Blk} (hm : blk hp id = some x) (hN : N id) {b : Nat} (hr : r id = some b) (x' : Blk)
  (hbel : Below base.heap.size base w') (hs : Shapes w w') (hsz : w.heap.size ≤ w'.heap.size) (ho : ∀ c, c ≠ b → w'.heap[c]? = w.heap[c]?)
  (hx' : ∀ G', (∀ o c, Gd base okc r N hp w o c → G' o c) → BlkRep r N G' w' (some b) x') : Step base okc r N hp w r N (setBlk hp id x') w' := by
 have hk : ∀ j y, blk (setBlk hp id x') j = some y → ∃ z, blk hp j = some z := fun j y hy => by
  rw [blk_setBlk] at hy
  split at hy
  ·rename_i e; subst e; exact ⟨x, hm⟩
  ·exact ⟨y, hy⟩
 have hG : ∀ o c, Gd base okc r N hp w o c → Gd base okc r N (setBlk hp id x') w' o c ∧ w'.heap[c]? = w.heap[c]? := fun o c ⟨h1, h2, h3⟩ =>
  ⟨⟨by omega, fun i y hy hi => let ⟨z, hz⟩ := hk i y hy; h2 i z hz hi, h3⟩, ho c fun e => h2 id x hm hN (e ▸ hr)⟩
 refine ⟨⟨hbel, fun i y hy hi => ?_, fun i y c hy hi hc => let ⟨z, hz⟩ := hk i y hy; h.own i z c hz hi hc,
  fun i y i' y' c hy hi hy' hi' hc hc' => let ⟨z, hz⟩ := hk i y hy; let ⟨z', hz'⟩ := hk i' y' hy'; h.inj i z i' z' c hz hi hz' hi' hc hc'⟩, fun _ _ => rfl, fun _ h => h, hG, hs⟩
 rw [blk_setBlk] at hy
 split at hy
 ·rename_i e; subst e
  rw [hm] at hy; cases hy
  rw [hr]; exact hx' _ fun o c hc => (hG o c hc).1
 ·rename_i ne
  refine (h.rep i y hy hi).mono (fun _ _ => rfl) (fun _ h => h) hG hs fun c hc => ho c fun e => ?_
  subst e
  exact ne (h.inj _ _ _ _ _ hy hi hm hN hc hr)
theorem Sat.sub {base : World} {okc : Nat → Prop} {r : Nat → Option Nat} {N : Nat → Prop} {hp hp' : List (Nat × Blk)} {w : World} (h : Sat base okc r N hp w) (hs : ∀ id x, blk hp' id = some x → blk hp id = some x) :
  Step base okc r N hp w r N hp' w := by
 have hG : ∀ o c, Gd base okc r N hp w o c → Gd base okc r N hp' w o c := fun o c ⟨h1, h2, h3⟩ => ⟨h1, fun i y hy => h2 i y (hs _ _ hy), h3⟩
 exact ⟨⟨h.below, fun i y hy hi => (h.rep i y (hs _ _ hy) hi).mono (fun _ _ => rfl) (fun _ h => h) (fun o c hc => ⟨hG o c hc, rfl⟩) (Shapes.refl _) (fun _ _ => rfl),
  fun i y c hy hi hc => h.own i y c (hs _ _ hy) hi hc, fun i y i' y' c hy hi hy' hi' hc hc' => h.inj i y i' y' c (hs _ _ hy) hi (hs _ _ hy') hi' hc hc'⟩, fun _ _ => rfl, fun _ h => h, fun o c hc => ⟨hG o c hc, rfl⟩, Shapes.refl w⟩
theorem Shapes.below {w w' : World} (h : Below w.heap.size w w') : Shapes w w' := fun b cs t z hb => ⟨cs, (h.block b (Array.getElem?_eq_some_iff.1 hb).1).trans hb, rfl⟩
theorem Sat.grow {base : World} {okc : Nat → Prop} {r : Nat → Option Nat} {N : Nat → Prop} {hp : List (Nat × Blk)} {w w' : World} (h : Sat base okc r N hp w) (hb : Below w.heap.size w w') : Step base okc r N hp w r N hp w' := by
 have hG : ∀ o c, Gd base okc r N hp w o c → Gd base okc r N hp w' o c ∧ w'.heap[c]? = w.heap[c]? := fun o c ⟨h1, h2, h3⟩ => ⟨⟨Nat.lt_of_lt_of_le h1 hb.size, h2, h3⟩, hb.block c h1⟩
 exact ⟨⟨h.below.trans (hb.mono h.below.size), fun i y hy hi => (h.rep i y hy hi).mono (fun _ _ => rfl) (fun _ h => h) hG (Shapes.below hb) fun b e => hb.block b (h.lt hy hi e),
  h.own, h.inj⟩, fun _ _ => rfl, fun _ h => h, hG, Shapes.below hb⟩
end Go.Sx
end
section
set_option linter.unusedVariables false
set_option linter.unusedSimpArgs false
namespace Go.Sx
open Go.RowKit
inductive Lf : Type
 | i (k : IntKind)
 | b
deriving DecidableEq
def lfOk : Lf → Value → Bool
 | .i k, .int k' _ => decide (k = k')
 | .b, .bool _ => true
 | _, _ => false
def fitL : List Lf → List Value → Bool
 | [], [] => true
 | f :: l, v :: m => lfOk f v && fitL l m
 | _, _ => false
def repL (n : Nat) (l : List Lf) : List Lf := match n with
 | 0 => []
 | n + 1 => l ++ repL n l
def eqV : Value → Value → Bool
 | .int _ a, .int _ b => decide (a = b)
 | .bool a, .bool b => decide (a = b)
 | _, _ => false
def eqVs : List Value → List Value → Bool
 | [], [] => true
 | v :: l, u :: m => eqV v u && eqVs l m
 | _, _ => false
theorem eqVs_append : ∀ (x1 y1 x2 y2 : List Value), x1.length = y1.length → eqVs (x1 ++ x2) (y1 ++ y2) = (eqVs x1 y1 && eqVs x2 y2)
 | [], [], x2, y2, _ => by simp [eqVs]
 | v :: x1, u :: y1, x2, y2, h => by simp [eqVs, eqVs_append x1 y1 x2 y2 (by simpa using h), Bool.and_assoc]
 | [], _ :: _, _, _, h => by simp at h
 | _ :: _, [], _, _, h => by simp at h
theorem fitL_length : ∀ {l : List Lf} {m : List Value}, fitL l m = true → m.length = l.length
 | [], [], _ => rfl
 | [], _ :: _, h => by simp [fitL] at h
 | _ :: _, [], h => by simp [fitL] at h
 | f :: l, v :: m, h => by
  simp only [fitL, Bool.and_eq_true] at h
  simp [fitL_length h.2]
theorem fitL_split : ∀ {l l' : List Lf} {m : List Value}, fitL (l ++ l') m = true → ∃ m1 m2, m = m1 ++ m2 ∧ fitL l m1 = true ∧ fitL l' m2 = true
 | [], l', m, h => ⟨[], m, rfl, rfl, h⟩
 | f :: l, l', [], h => by simp [fitL] at h
 | f :: l, l', v :: m, h => by
  simp only [List.cons_append, fitL, Bool.and_eq_true] at h
  obtain ⟨m1, m2, rfl, h1, h2⟩ := fitL_split h.2
  exact ⟨v :: m1, m2, rfl, by simp [fitL, h.1, h1], h2⟩
def leavesF (g : TypeId → Option (List Lf)) (P : Program) : List Field → Nat → Option (List Lf)
 | [], _ => some []
 | f :: fs, o => if f.name ≠ "_" ∧ f.offset = o then
   match g f.type with
   | some l => if P.cellsOf f.type = l.length then (match leavesF g P fs (o + l.length) with | some l' => some (l ++ l') | none => none) else none
   | none => none
  else none
def isAggD : TypeDesc → Bool
 | .struct _ => true
 | .array _ _ => true
 | _ => false
def leaves (P : Program) : Nat → TypeId → Option (List Lf)
 | 0, _ => none
 | m + 1, t => match P.underlying t with
  | some (.int k) => some [.i k]
  | some .bool => some [.b]
  | some (.struct fs) => if P.stoodInHeld t = false then leavesF (leaves P m) P fs.toList 0 else none
  | some (.array n e) => match leaves P m e with
   | some l => if P.cellsOf e = l.length ∧ (P.info? e).isSome = true then some (repL n l) else none
   | none => none
  | _ => none
def mkV (P : Program) (t : TypeId) (xs : List Value) : Value := match P.underlying t with
 | some d => if isAggD d = true then .agg xs.toArray else xs.headD undef
 | none => undef
section
variable {P : Program}
theorem leaves_under {m : Nat} {t : TypeId} {l : List Lf} (h : leaves P m t = some l) : ∃ d, P.underlying t = some d ∧ (isAggD d = false → l.length = 1) := by
 cases m with
 | zero => simp [leaves] at h
 | succ m =>
  unfold leaves at h
  cases hu : P.underlying t with
  | none => simp [hu] at h
  | some d =>
   refine ⟨d, rfl, fun hd => ?_⟩
   rw [hu] at h
   cases d <;> simp only [isAggD] at hd <;> simp only [reduceCtorEq] at h <;> first | (cases h; rfl) | cases hd
theorem run_part {t : TypeId} {m : Nat} {l : List Lf} (h : leaves P m t = some l) (hs : P.cellsOf t = l.length) (a x b : List Value) (hx : x.length = l.length) (w : World) :
  (part t (a ++ (x ++ b)).toArray a.length).run P w = .ok (mkV P t x) w := by
 obtain ⟨d, hu, h1⟩ := leaves_under h
 unfold part mkV
 simp only [isAgg, Sem.run_bind, run_underlying hu, Result.andThen_ok, hu]
 have hsz : (sizeOf t).run P w = .ok l.length w := by
  obtain ⟨i, hi⟩ := info_of_underlying hu
  have : i.size = l.length := by rw [← hs]; simp [Program.cellsOf, hi]
  simp [sizeOf, typeInfo, hi, this]
 have hagg : isAggD d = true → (Sem.run P (sizeOf t) w).andThen (fun n w => Result.ok (Value.agg ((a ++ (x ++ b)).toArray.extract a.length (a.length + n))) w) = .ok (.agg x.toArray) w := fun _ => by
  simp only [hsz, Result.andThen_ok]
  congr 2
  apply Array.ext'
  simp only [Array.toList_extract, List.extract_eq_take_drop]
  simp [hx]
 have hone : isAggD d = false → (a ++ (x ++ b)).toArray[a.length]? = some (x.headD undef) := fun hd => by
  have := h1 hd
  cases x with
  | nil => simp at hx; omega
  | cons v x => simp
 cases d <;> simp only [isAggD] at hagg hone ⊢
 all_goals first
  | (have := hone trivial; simp only [Sem.run_pure, Result.andThen_ok, Bool.false_eq_true, if_false, this])
  | (simp only [Sem.run_pure, Result.andThen_ok, if_true, Sem.run_bind]; exact hagg trivial)
theorem fit_mk_int {k : IntKind} {x : List Value} (h : fitL [.i k] x = true) : ∃ n, x = [.int k n] := by
 match x, h with
 | [], h => simp [fitL] at h
 | [v], h =>
  cases v <;> simp [fitL, lfOk] at h
  subst h; exact ⟨_, rfl⟩
 | v :: u :: x, h => simp [fitL] at h
theorem fit_mk_bool {x : List Value} (h : fitL [.b] x = true) : ∃ n, x = [.bool n] := by
 match x, h with
 | [], h => simp [fitL] at h
 | [v], h =>
  cases v <;> simp [fitL, lfOk] at h
  exact ⟨_, rfl⟩
 | v :: u :: x, h => simp [fitL] at h
def EqS (P : Program) (dd : Nat) (t : TypeId) (l : List Lf) : Prop := ∀ (w : World) (x y : List Value), fitL l x = true → fitL l y = true → (Op.equalIn dd t (mkV P t x) (mkV P t y)).run P w = .ok (eqVs x y) w
theorem eqFields_s (dd : Nat) {g : TypeId → Option (List Lf)} (m : Nat) (hg : ∀ t l, g t = some l → leaves P m t = some l ∧ EqS P dd t l) : ∀ (fs : List Field) (o : Nat) (l : List Lf), leavesF g P fs o = some l →
  ∀ (w : World) (a a' x y : List Value), a.length = o → a'.length = o → fitL l x = true → fitL l y = true → (Op.eqFields dd (a ++ x).toArray (a' ++ y).toArray fs).run P w = .ok (eqVs x y) w
 | [], o, l, h, w, a, a', x, y, ha, ha', hx, hy => by
  simp only [leavesF, Option.some.injEq] at h; subst h
  have := fitL_length hx
  have := fitL_length hy
  cases x <;> cases y <;> simp at *
  simp [Op.eqFields, eqVs]
 | f :: fs, o, l, h, w, a, a', x, y, ha, ha', hx, hy => by
  simp only [leavesF] at h
  split at h
  ·rename_i hf
   cases hgl : g f.type with
   | none => rw [hgl] at h; cases h
   | some l1 =>
    rw [hgl] at h
    simp only [] at h
    split at h
    ·rename_i hsz
     cases hl2 : leavesF g P fs (o + l1.length) with
     | none => rw [hl2] at h; cases h
     | some l2 =>
      rw [hl2] at h
      simp only [Option.some.injEq] at h
      subst h
      obtain ⟨x1, x2, rfl, hx1, hx2⟩ := fitL_split hx
      obtain ⟨y1, y2, rfl, hy1, hy2⟩ := fitL_split hy
      obtain ⟨h1, h2⟩ := hg _ _ hgl
      have l1x := fitL_length hx1
      have l1y := fitL_length hy1
      have p1 := run_part h1 hsz a x1 x2 l1x w
      have p2 := run_part h1 hsz a' y1 y2 l1y w
      have p3 := h2 w x1 y1 hx1 hy1
      have ih := eqFields_s dd m hg fs (o + l1.length) l2 hl2 w (a ++ x1) (a' ++ y1) x2 y2 (by simp [ha, l1x]) (by simp [ha', l1y]) hx2 hy2
      rw [List.append_assoc, List.append_assoc] at ih
      have ea : f.offset = a.length := by rw [ha]; exact hf.2
      have ea' : a.length = a'.length := by rw [ha, ha']
      simp only [Op.eqFields, if_pos hf.1, Sem.run_bind]
      rw [ea, p1]
      simp only [Result.andThen_ok]
      rw [ea', p2]
      simp only [Result.andThen_ok, p3]
      rw [eqVs_append _ _ _ _ (by rw [l1x, l1y])]
      cases e : eqVs x1 y1
      ·simp only [Bool.not_false, if_true, Sem.run_pure, Bool.false_and]
      ·simp only [Bool.not_true, Bool.false_eq_true, if_false, Bool.true_and]
       exact ih
    ·cases h
  ·cases h
theorem eqItems_s (dd : Nat) {e : TypeId} {m : Nat} {l : List Lf} (he : leaves P m e = some l) (hs : P.cellsOf e = l.length) (hE : EqS P dd e l) : ∀ (n i : Nat) (w : World) (a a' x y : List Value), a.length = i * l.length → a'.length = i * l.length →
  fitL (repL n l) x = true → fitL (repL n l) y = true → (Op.eqItems dd e (P.cellsOf e) (a ++ x).toArray (a' ++ y).toArray (List.range' i n)).run P w = .ok (eqVs x y) w
 | 0, i, w, a, a', x, y, ha, ha', hx, hy => by
  have := fitL_length hx
  have := fitL_length hy
  cases x <;> cases y <;> simp [repL] at *
  simp [Op.eqItems, eqVs]
 | n + 1, i, w, a, a', x, y, ha, ha', hx, hy => by
  simp only [repL] at hx hy
  obtain ⟨x1, x2, rfl, hx1, hx2⟩ := fitL_split hx
  obtain ⟨y1, y2, rfl, hy1, hy2⟩ := fitL_split hy
  have l1x := fitL_length hx1
  have l1y := fitL_length hy1
  have p1 := run_part he hs a x1 x2 l1x w
  have p2 := run_part he hs a' y1 y2 l1y w
  have p3 := hE w x1 y1 hx1 hy1
  have ih := eqItems_s dd he hs hE n (i + 1) w (a ++ x1) (a' ++ y1) x2 y2 (by simp [ha, l1x, Nat.succ_mul]) (by simp [ha', l1y, Nat.succ_mul]) hx2 hy2
  rw [List.append_assoc, List.append_assoc] at ih
  have ea : i * P.cellsOf e = a.length := by rw [ha, hs]
  have ea' : a.length = a'.length := by rw [ha, ha']
  simp only [List.range'_succ, Op.eqItems, Sem.run_bind]
  rw [ea, p1]
  simp only [Result.andThen_ok]
  rw [ea', p2]
  simp only [Result.andThen_ok, p3]
  rw [eqVs_append _ _ _ _ (by rw [l1x, l1y])]
  cases e : eqVs x1 y1
  ·simp only [Bool.not_false, if_true, Sem.run_pure, Bool.false_and]
  ·simp only [Bool.not_true, Bool.false_eq_true, if_false, Bool.true_and]
   exact ih
theorem eqS : ∀ (m d : Nat) (t : TypeId) (l : List Lf), leaves P m t = some l → EqS P (d + m) t l
 | 0, d, t, l, h => by simp [leaves] at h
 | m + 1, d, t, l, h => by
  intro w x y hx hy
  have h0 := h
  unfold leaves at h
  cases hu : P.underlying t with
  | none => simp [hu] at h
  | some D =>
   rw [hu] at h
   cases D <;> simp only [reduceCtorEq] at h
   case int k =>
    cases h
    obtain ⟨n, rfl⟩ := fit_mk_int hx
    obtain ⟨n', rfl⟩ := fit_mk_int hy
    simp only [mkV, hu, isAggD, Bool.false_eq_true, if_false, List.headD_cons]
    rw [show d + (m + 1) = (d + m) + 1 from rfl, run_equalIn_int w (d + m) t k k n n' hu]
    congr 1
    simp only [eqVs, eqV, Bool.and_true]
    by_cases e : n = n' <;> simp [e]
   case bool =>
    cases h
    obtain ⟨n, rfl⟩ := fit_mk_bool hx
    obtain ⟨n', rfl⟩ := fit_mk_bool hy
    simp only [mkV, hu, isAggD, Bool.false_eq_true, if_false, List.headD_cons]
    rw [show d + (m + 1) = (d + m) + 1 from rfl, run_equalIn_bool w (d + m) t n n' hu]
    congr 1
    simp only [eqVs, eqV, Bool.and_true]
    by_cases e : n = n' <;> simp [e]
   case struct fs =>
    split at h
    ·rename_i hst
     have hf : P.fieldsOf t = fs := by simp [Program.fieldsOf, hu]
     simp only [mkV, hu, isAggD, if_true]
     rw [show d + (m + 1) = (d + m) + 1 from rfl, run_equalIn_struct w (d + m) t _ _ (by rw [hf]; exact hu) hst, hf]
     have := eqFields_s (P := P) (d + m) m (fun t l ht => ⟨ht, eqS m d t l ht⟩) fs.toList 0 l h w [] [] x y rfl rfl hx hy
     simpa using this
    ·cases h
   case array n e =>
    cases hl : leaves P m e with
    | none => rw [hl] at h; cases h
    | some l1 =>
     rw [hl] at h
     simp only [] at h
     split at h
     ·rename_i hc
      cases h
      obtain ⟨i, hi⟩ := Option.isSome_iff_exists.1 hc.2
      simp only [mkV, hu, isAggD, if_true]
      rw [show d + (m + 1) = (d + m) + 1 from rfl, run_equalIn_array w (d + m) _ _ hu hi]
      have := eqItems_s (P := P) (d + m) hl hc.1 (eqS m d e l1 hl) n 0 w [] [] x y (by simp) (by simp) hx hy
      rw [List.range_eq_range']
      simpa using this
     ·cases h
theorem run_eq_agg {m : Nat} {t : TypeId} {l : List Lf} {d : TypeDesc} (h : leaves P m t = some l) (hm : m ≤ 10000) (hd : P.underlying t = some d) (ha : isAggD d = true) (xs ys : Array Value) (hx : fitL l xs.toList = true) (hy : fitL l ys.toList = true) (w : World) :
  (Op.equal t (.agg xs) (.agg ys)).run P w = .ok (eqVs xs.toList ys.toList) w := by
 have := eqS (P := P) m (10000 - m) t l h w xs.toList ys.toList hx hy
 simp only [mkV, hd, ha, if_true] at this
 rw [show 10000 - m + m = 10000 by omega] at this
 show (Op.equalIn 10000 t (.agg xs) (.agg ys)).run P w = _
 simp only [Array.toArray_toList] at this
 exact this
theorem eqVs_iff : ∀ {l : List Lf} {x y : List Value}, fitL l x = true → fitL l y = true → (eqVs x y = true ↔ x = y)
 | [], [], [], _, _ => by simp [eqVs]
 | [], _ :: _, _, h, _ => by simp [fitL] at h
 | [], [], _ :: _, _, h => by simp [fitL] at h
 | _ :: _, [], _, h, _ => by simp [fitL] at h
 | _ :: _, _ :: _, [], _, h => by simp [fitL] at h
 | f :: l, v :: x, u :: y, h, h' => by
  simp only [fitL, Bool.and_eq_true] at h h'
  simp only [eqVs, Bool.and_eq_true, eqVs_iff h.2 h'.2, List.cons.injEq]
  have : eqV v u = true ↔ v = u := by
   obtain ⟨h1, -⟩ := h
   obtain ⟨h2, -⟩ := h'
   cases f <;> cases v <;> simp [lfOk] at h1 <;> cases u <;> simp [lfOk] at h2
   ·subst h1; subst h2; simp [eqV]
   ·simp [eqV]
  rw [this]
end
end Go.Sx
end
section
set_option linter.unusedVariables false
set_option linter.unusedSimpArgs false
namespace Go.Sx
open Go.RowKit
inductive D : Type
 | int (k : IntKind)
 | bool
 | slice (e : TypeId) (k : Nat)
 | struct (fs : List (Nat × Nat × Option Bool))
 | array (n : Nat) (e : TypeId) (k : Nat)
 | map (kt et : TypeId)
 | other
structure TyI : Type where
 agg : Bool
 size : Nat
 zero : Option (List Value)
 d : D
def aggOf : TypeDesc → Bool
 | .struct _ => true
 | .array _ _ => true
 | _ => false
def dOf (P : Program) : TypeDesc → D
 | .int k => .int k
 | .bool => .bool
 | .slice e => match P.info? e with | some i => .slice e i.size | none => .other
 | .struct fs => .struct (fs.toList.map fun f => (f.offset, P.cellsOf f.type, (P.underlying f.type).map aggOf))
 | .array n e => match P.info? e with | some i => .array n e i.size | none => .other
 | .map k e => .map k e
 | _ => .other
def tyOf (P : Program) (t : TypeId) : Option TyI :=
 match P.info? t with
 | none => none
 | some i => match P.underlying t with
  | none => none
  | some d => some ⟨aggOf d, i.size, i.zero.map (·.cells.toList), dOf P d⟩
theorem tyOf_some {P : Program} {t : TypeId} {ti : TyI} (h : tyOf P t = some ti) : ∃ i d, P.info? t = some i ∧ P.underlying t = some d ∧ ti = ⟨aggOf d, i.size, i.zero.map (·.cells.toList), dOf P d⟩ := by
 unfold tyOf at h
 cases hi : P.info? t with
 | none => simp [hi] at h
 | some i =>
  cases hd : P.underlying t with
  | none => simp [hi, hd] at h
  | some d => simp [hi, hd] at h; exact ⟨i, d, rfl, rfl, h.symm⟩
theorem run_isAgg' {P : Program} {t : TypeId} {ti : TyI} (h : tyOf P t = some ti) (w : World) : (isAgg t).run P w = .ok ti.agg w := by
 obtain ⟨i, d, hi, hd, rfl⟩ := tyOf_some h
 simp only [isAgg, Sem.run_bind, run_underlying hd, Result.andThen_ok]
 cases d <;> rfl
theorem run_sizeOf' {P : Program} {t : TypeId} {ti : TyI} (h : tyOf P t = some ti) (w : World) : (sizeOf t).run P w = .ok ti.size w := by
 obtain ⟨i, d, hi, hd, rfl⟩ := tyOf_some h
 simp [sizeOf, typeInfo, hi]
theorem run_zeroValue' {P : Program} {t : TypeId} {ti : TyI} (h : tyOf P t = some ti) {z : List Value} (hz : ti.zero = some z) (w : World) : ∃ v, (zeroValue t).run P w = .ok v w ∧ v.cells.toList = z := by
 obtain ⟨i, d, hi, hd, rfl⟩ := tyOf_some h
 cases hzi : i.zero with
 | none => simp [hzi] at hz
 | some v => refine ⟨v, by simp [zeroValue, typeInfo, hi, hzi], by simpa [hzi] using hz⟩
inductive Res : Type
 | bad
 | pure (obl : Prop) (r : SV)
 | ex (obl : SV → Prop)
 | new (obl : Prop) (b : Blk) (mk : Nat → SV)
 | upd (obl : Prop) (id : Nat) (b : Blk)
 | updv (obl : Prop) (id : Nat) (b : Blk) (r : SV)
 | grow (obl : Prop) (old : Nat) (b : Blk) (mk : Nat → SV)
 | call (f : FuncId) (args : List SV)
 | yield (id : Nat) (args : List SV)
 | raw
def InK : IntKind → Int → Prop
 | .i64, n => -9223372036854775808 ≤ n ∧ n ≤ 9223372036854775807
 | .i32, n => -2147483648 ≤ n ∧ n ≤ 2147483647
 | .i16, n => -32768 ≤ n ∧ n ≤ 32767
 | .i8, n => -128 ≤ n ∧ n ≤ 127
 | .u64, n => 0 ≤ n ∧ n ≤ 18446744073709551615
 | .u32, n => 0 ≤ n ∧ n ≤ 4294967295
 | .u16, n => 0 ≤ n ∧ n ≤ 65535
 | .u8, n => 0 ≤ n ∧ n ≤ 255
theorem wrap_inK {k : IntKind} {n : Int} (h : InK k n) : k.wrap n = n := by
 cases k <;> simp only [InK] at h <;> simp only [IntKind.wrap, IntKind.bits, IntKind.signed] <;> simp <;> omega
def svIte (c : Bool) (a b : SV) : SV := if c = true then a else b
def oneCell : SV → Bool
 | .val (.agg _) => false
 | .val (.tuple _) => false
 | .val _ => true
 | .fn _ _ _ => true
 | .ptr _ _ => true
 | .elt _ _ _ _ => true
 | .ref _ _ _ => true
 | .arr _ _ _ _ _ => true
 | .vec _ _ _ => true
 | .mp _ => true
 | .cut _ _ _ => true
 | .cmp _ _ _ _ => true
 | _ => false
theorem Rep.one {r : Nat → Option Nat} {N : Nat → Prop} {G : Bool → Nat → Prop} {w : World} {sv : SV} {v : Value} (h : Rep r N G w sv v) (h1 : oneCell sv = true) : v.oneCell' = true := by
 cases h <;> first | rfl | (simp [oneCell] at h1; done) | skip
 cases v <;> first | rfl | (simp [oneCell] at h1; done)
def sel (row : Nat → SV) : Nat → Nat → List SV
 | _, 0 => []
 | i, n + 1 => row i :: sel row (i + 1) n
theorem sel_length (row : Nat → SV) (n i : Nat) : (sel row i n).length = n := by
 induction n generalizing i with
 | zero => rfl
 | succ n ih => simp [sel, ih]
theorem sel_get (row : Nat → SV) (n i j : Nat) : (sel row i n)[j]? = if j < n then some (row (i + j)) else none := by
 induction n generalizing i j with
 | zero => simp [sel]
 | succ n ih =>
  cases j with
  | zero => simp [sel]
  | succ j => simp only [sel, List.getElem?_cons_succ, ih]; by_cases h : j < n <;> simp [h] <;> congr 1 <;> omega
def rInt (op : BinOp) (k : IntKind) (a b : Int) : Res :=
 match op with
 | .add => .pure (InK k (a + b)) (.val (.int k (a + b)))
 | .sub => .pure (InK k (a - b)) (.val (.int k (a - b)))
 | .mul => .pure (InK k (a * b)) (.val (.int k (a * b)))
 | .quo => .pure (b ≠ 0 ∧ InK k (a.tdiv b)) (.val (.int k (a.tdiv b)))
 | .rem => .pure (b ≠ 0) (.val (.int k (a.tmod b)))
 | .eql => .pure True (.val (.bool (decide (a = b))))
 | .neq => .pure True (.val (.bool (!decide (a = b))))
 | .lss => .pure True (.val (.bool (decide (a < b))))
 | .leq => .pure True (.val (.bool (decide (a ≤ b))))
 | .gtr => .pure True (.val (.bool (decide (b < a))))
 | .geq => .pure True (.val (.bool (decide (b ≤ a))))
 | .and => .pure (0 ≤ a ∧ InK k a ∧ 0 ≤ b ∧ InK k b) (.val (.int k ((a.toNat &&& b.toNat : Nat) : Int)))
 | .or => .pure (0 ≤ a ∧ InK k a ∧ 0 ≤ b ∧ InK k b) (.val (.int k ((a.toNat ||| b.toNat : Nat) : Int)))
 | .shl => .pure (0 ≤ b ∧ b.toNat ≤ k.bits ∧ InK k (a * 2 ^ b.toNat)) (.val (.int k (a * 2 ^ b.toNat)))
 | .shr => .pure (0 ≤ b ∧ b.toNat ≤ k.bits) (.val (.int k (a.fdiv (2 ^ b.toNat))))
 | _ => .bad
def eqKind : IntKind → IntKind → Bool
 | .i64, .i64 => true
 | .u8, .u8 => true
 | .u32, .u32 => true
 | .u16, .u16 => true
 | .i32, .i32 => true
 | .u64, .u64 => true
 | _, _ => false
theorem eqKind_eq {k k' : IntKind} (h : eqKind k k' = true) : k = k' := by cases k <;> cases k' <;> simp [eqKind] at h ⊢
def eqInfo (P : Program) (t : TypeId) : Option (List Lf) :=
 match P.underlying t with
 | some d => if isAggD d = true ∧ P.eqGuardType P.depth t = false then leaves P 12 t else none
 | none => none
def fitS : List Lf → List SV → Bool
 | [], [] => true
 | f :: l, .val v :: m => lfOk f v && fitS l m
 | _, _ => false
def eqSVs : List SV → List SV → Bool
 | [], [] => true
 | .val u :: l, .val v :: m => eqV u v && eqSVs l m
 | _, _ => false
def rEq (P : Program) (op : BinOp) (t : TypeId) (l m : List SV) : Res :=
 match eqInfo P t with
 | some ls => match op with
  | .eql => .pure (fitS ls l = true ∧ fitS ls m = true) (.val (.bool (eqSVs l m)))
  | .neq => .pure (fitS ls l = true ∧ fitS ls m = true) (.val (.bool (!eqSVs l m)))
  | _ => .bad
 | none => .bad
def nilSlice : Value → Bool
 | .slice none 0 0 => true
 | _ => false
theorem nilSlice_eq {v : Value} (h : nilSlice v = true) : v = .slice none 0 0 := by
 unfold nilSlice at h
 split at h
 ·rfl
 ·cases h
def rNilS (P : Program) (op : BinOp) (t : TypeId) (obl : Prop) (isnil : Bool) (v : Value) : Res :=
 match nilSlice v with
 | true => match tyOf P t with
  | some ⟨_, _, _, .slice _ _⟩ => match op with
   | .eql => .pure obl (.val (.bool isnil))
   | .neq => .pure obl (.val (.bool (!isnil)))
   | _ => .bad
  | _ => .bad
 | false => .bad
def rBin (P : Program) (op : BinOp) (t : TypeId) (x y : SV) : Res :=
 match x, y with
 | .arr _ _ n _ _, .val v => rNilS P op t (0 < n) false v
 | .vec _ n _, .val v => rNilS P op t (0 < n) false v
 | .cut _ n _, .val v => rNilS P op t (0 < n) false v
 | .asl _ _ _ _, .val v => rNilS P op t True false v
 | .val (.slice a n c), .val v => rNilS P op t True a.isNone v
 | .val (.int k a), .val (.int k' b) => if eqKind k k' = true then rInt op k a b else .bad
 | .val (.bool a), .val (.bool b) =>
  match tyOf P t with
  | some ⟨_, _, _, .bool⟩ =>
   match op with
   | .eql => .pure True (.val (.bool (decide (a = b))))
   | .neq => .pure True (.val (.bool (!decide (a = b))))
   | _ => .bad
  | _ => .bad
 | .agg l, .agg m => rEq P op t l m
 | _, _ => .bad
def rUn (op : UnOp) (x : SV) : Res :=
 match op, x with
 | .neg, .val (.int k a) => .pure (InK k (0 - a)) (.val (.int k (0 - a)))
 | .not, .val (.bool b) => .pure True (.val (.bool (!b)))
 | _, _ => .bad
def rConv (s t : Option TyI) (x : SV) : Res :=
 match s, t, x with
 | some _, some ⟨_, _, _, .int k⟩, .val (.int _ n) => .pure (InK k n) (.val (.int k n))
 | _, _, _ => .bad
def rPick (c a b : SV) : Res :=
 match c with
 | .val (.bool c) => .pure True (svIte c a b)
 | _ => .bad
theorem Rep.ite {r : Nat → Option Nat} {N : Nat → Prop} {G : Bool → Nat → Prop} {w : World} {a b : SV} {x y : Value} (c : Bool) (h : Rep r N G w a x) (h' : Rep r N G w b y) :
  Rep r N G w (svIte c a b) (if c = true then x else y) := by cases c <;> simpa [svIte]
section
variable {P : Program} {r : Nat → Option Nat} {N : Nat → Prop} {G : Bool → Nat → Prop} {w : World}
theorem inK_nat {k : IntKind} {a : Int} (h0 : 0 ≤ a) (h : InK k a) : ∃ p, a.toNat < 2 ^ p ∧ p ≤ k.bits ∧ ∀ n : Nat, n < 2 ^ p → InK k n := by
 cases k <;> simp only [InK] at h <;> simp only [IntKind.bits, InK]
 ·exact ⟨7, by omega, by omega, fun n hn => by omega⟩
 ·exact ⟨15, by omega, by omega, fun n hn => by omega⟩
 ·exact ⟨31, by omega, by omega, fun n hn => by omega⟩
 ·exact ⟨63, by omega, by omega, fun n hn => by omega⟩
 ·exact ⟨8, by omega, by omega, fun n hn => by omega⟩
 ·exact ⟨16, by omega, by omega, fun n hn => by omega⟩
 ·exact ⟨32, by omega, by omega, fun n hn => by omega⟩
 ·exact ⟨64, by omega, by omega, fun n hn => by omega⟩
theorem ofInt_nat {k : IntKind} {a : Int} (h0 : 0 ≤ a) (h : InK k a) : (BitVec.ofInt k.bits a).toNat = a.toNat := by
 obtain ⟨p, h1, h2, _⟩ := inK_nat h0 h
 rw [BitVec.toNat_ofInt]
 have h3 : a.toNat < 2 ^ k.bits := Nat.lt_of_lt_of_le h1 (Nat.pow_le_pow_right (by omega) h2)
 have e : a = (a.toNat : Int) := (Int.toNat_of_nonneg h0).symm
 rw [e]
 rw [show (((a.toNat : Nat) : Int) % ((2 ^ k.bits : Nat) : Int)) = ((a.toNat % 2 ^ k.bits : Nat) : Int) from rfl, Int.toNat_natCast, Nat.mod_eq_of_lt h3, Int.toNat_natCast]
theorem inK_p {k : IntKind} {a b : Int} (h0 : 0 ≤ a) (h : InK k a) (g0 : 0 ≤ b) (g : InK k b) : InK k ((a.toNat &&& b.toNat : Nat) : Int) ∧ InK k ((a.toNat ||| b.toNat : Nat) : Int) := by
 cases k <;> simp only [InK] at h g ⊢
 all_goals (
  have h1 : a.toNat &&& b.toNat ≤ a.toNat := Nat.and_le_left)
 ·have := Nat.or_lt_two_pow (x := a.toNat) (y := b.toNat) (n := 7) (by omega) (by omega); omega
 ·have := Nat.or_lt_two_pow (x := a.toNat) (y := b.toNat) (n := 15) (by omega) (by omega); omega
 ·have := Nat.or_lt_two_pow (x := a.toNat) (y := b.toNat) (n := 31) (by omega) (by omega); omega
 ·have := Nat.or_lt_two_pow (x := a.toNat) (y := b.toNat) (n := 63) (by omega) (by omega); omega
 ·have := Nat.or_lt_two_pow (x := a.toNat) (y := b.toNat) (n := 8) (by omega) (by omega); omega
 ·have := Nat.or_lt_two_pow (x := a.toNat) (y := b.toNat) (n := 16) (by omega) (by omega); omega
 ·have := Nat.or_lt_two_pow (x := a.toNat) (y := b.toNat) (n := 32) (by omega) (by omega); omega
 ·have := Nat.or_lt_two_pow (x := a.toNat) (y := b.toNat) (n := 64) (by omega) (by omega); omega
theorem run_and_k {k : IntKind} {a b : Int} (t : TypeId) (h0 : 0 ≤ a) (h : InK k a) (g0 : 0 ≤ b) (g : InK k b) : (binOp .and t (.int k a) (.int k b)).run P w = .ok (.int k ((a.toNat &&& b.toNat : Nat) : Int)) w := by
 rw [binOp_and]
 simp only [Op.intBits, Sem.run_pure, BitVec.toNat_and, ofInt_nat h0 h, ofInt_nat g0 g, wrap_inK (inK_p h0 h g0 g).1]
theorem run_or_k {k : IntKind} {a b : Int} (t : TypeId) (h0 : 0 ≤ a) (h : InK k a) (g0 : 0 ≤ b) (g : InK k b) : (binOp .or t (.int k a) (.int k b)).run P w = .ok (.int k ((a.toNat ||| b.toNat : Nat) : Int)) w := by
 rw [binOp_or]
 simp only [Op.intBits, Sem.run_pure, BitVec.toNat_or, ofInt_nat h0 h, ofInt_nat g0 g, wrap_inK (inK_p h0 h g0 g).2]
theorem run_shl_k {k : IntKind} {a b : Int} (t : TypeId) (h0 : 0 ≤ b) (h1 : b.toNat ≤ k.bits) (h : InK k (a * 2 ^ b.toNat)) : (binOp .shl t (.int k a) (.int k b)).run P w = .ok (.int k (a * 2 ^ b.toNat)) w := by
 rw [binOp_shl]
 simp only [Op.shift, if_neg (show ¬ b < 0 by omega), Nat.min_eq_left h1, Sem.run_pure, wrap_inK h]
theorem run_shr_k {k : IntKind} {a b : Int} (t : TypeId) (h0 : 0 ≤ b) (h1 : b.toNat ≤ k.bits) : (binOp .shr t (.int k a) (.int k b)).run P w = .ok (.int k (a.fdiv (2 ^ b.toNat))) w := by
 rw [binOp_shr]
 simp only [Op.shift, if_neg (show ¬ b < 0 by omega), Nat.min_eq_left h1, Sem.run_pure]
theorem run_int_bin {op : BinOp} {k : IntKind} {a b : Int} {obl : Prop} {sv : SV} (t : TypeId) (h : rInt op k a b = .pure obl sv) (ho : obl) :
  ∃ v, (binOp op t (.int k a) (.int k b)).run P w = .ok v w ∧ sv = .val v := by
 cases op <;> simp only [rInt, Res.pure.injEq, reduceCtorEq] at h <;> obtain ⟨rfl, rfl⟩ := h
 case add => exact ⟨_, by rw [binOp_add]; simp only [Op.intArith, Sem.run_pure, wrap_inK ho], rfl⟩
 case sub => exact ⟨_, by rw [binOp_sub]; simp only [Op.intArith, Sem.run_pure, wrap_inK ho], rfl⟩
 case mul => exact ⟨_, by rw [binOp_mul]; simp only [Op.intArith, Sem.run_pure, wrap_inK ho], rfl⟩
 case quo => exact ⟨_, by rw [binOp_quo]; simp only [Op.intDiv, ho.1, if_false, Sem.run_pure, wrap_inK ho.2], rfl⟩
 case rem => exact ⟨_, by rw [binOp_rem]; simp only [Op.intDiv, if_neg ho, Sem.run_pure], rfl⟩
 case eql => exact ⟨_, by rw [binOp_eql]; simp only [Sem.run_pure]; rfl, rfl⟩
 case neq => exact ⟨_, by rw [binOp_neq]; simp only [Sem.run_pure]; rfl, rfl⟩
 case lss => exact ⟨_, by rw [binOp_lss]; simp only [Sem.run_pure], rfl⟩
 case leq => exact ⟨_, by rw [binOp_leq]; simp only [Sem.run_pure], rfl⟩
 case gtr => exact ⟨_, by rw [binOp_gtr]; simp only [Sem.run_pure], rfl⟩
 case geq => exact ⟨_, by rw [binOp_geq]; simp only [Sem.run_pure], rfl⟩
 case and => exact ⟨_, run_and_k t ho.1 ho.2.1 ho.2.2.1 ho.2.2.2, rfl⟩
 case or => exact ⟨_, run_or_k t ho.1 ho.2.1 ho.2.2.1 ho.2.2.2, rfl⟩
 case shl => exact ⟨_, run_shl_k t ho.1 ho.2.1 ho.2.2, rfl⟩
 case shr => exact ⟨_, run_shr_k t ho.1 ho.2, rfl⟩
theorem run_equalIn_bool (d : Nat) {t : TypeId} (a b : Bool) (hd : P.underlying t = some .bool) : (Op.equalIn (d + 1) t (.bool a) (.bool b)).run P w = .ok (a == b) w := by
 simp [Op.equalIn, run_underlying hd]
theorem run_eql_bool {t : TypeId} (a b : Bool) (hd : P.underlying t = some .bool) : (binOp .eql t (.bool a) (.bool b)).run P w = .ok (.bool (a == b)) w := by
 show (Op.equalIn (9999 + 1) t (.bool a) (.bool b) >>= fun c => pure (Value.bool c)).run P w = _
 rw [Sem.run_bind, run_equalIn_bool _ _ _ hd]
 rfl
theorem run_neq_bool {t : TypeId} (a b : Bool) (hd : P.underlying t = some .bool) : (binOp .neq t (.bool a) (.bool b)).run P w = .ok (.bool (!(a == b))) w := by
 show (Op.equalIn (9999 + 1) t (.bool a) (.bool b) >>= fun c => pure (Value.bool (!c))).run P w = _
 rw [Sem.run_bind, run_equalIn_bool _ _ _ hd]
 rfl
theorem fitS_rep : ∀ {ls : List Lf} {l : List SV} {cs : List Value}, fitS ls l = true → l.length = cs.length → (∀ (i : Nat) sv, l[i]? = some sv → Rep r N G w sv (cs.getD i undef)) → fitL ls cs = true ∧ l = cs.map SV.val
 | [], [], [], _, _, _ => ⟨rfl, rfl⟩
 | [], _ :: _, _, h, _, _ => by simp [fitS] at h
 | _ :: _, [], _, h, _, _ => by simp [fitS] at h
 | _, [], _ :: _, _, h, _ => by simp at h
 | _, _ :: _, [], _, h, _ => by simp at h
 | f :: ls, s :: l, c :: cs, h, hl, hr => by
  cases s <;> simp only [fitS, Bool.false_eq_true] at h
  simp only [Bool.and_eq_true] at h
  have h0 := hr 0 _ rfl
  simp only [List.getD_cons_zero] at h0
  cases h0
  obtain ⟨h1, h2⟩ := fitS_rep h.2 (by simpa using hl) fun i sv hi => by simpa using hr (i + 1) sv (by simpa using hi)
  exact ⟨by simp [fitL, h.1, h1], by simp [h2]⟩
theorem eqSVs_map : ∀ (x y : List Value), eqSVs (x.map SV.val) (y.map SV.val) = eqVs x y
 | [], [] => rfl
 | [], _ :: _ => rfl
 | _ :: _, [] => rfl
 | a :: x, b :: y => by simp [eqSVs, eqVs, eqSVs_map x y]
theorem run_rEq {op : BinOp} {t : TypeId} {l m : List SV} {obl : Prop} {sv : SV} (h : rEq P op t l m = .pure obl sv) (ho : obl) {u v : Value} (hx : Rep r N G w (.agg l) u) (hy : Rep r N G w (.agg m) v) (ox oy : Operand) :
  ∃ z, (do eqGuard op t ox oy u v; binOp op t u v).run P w = .ok z w ∧ Rep r N G w sv z := by
 unfold rEq at h
 split at h
 ·rename_i ls hi
  unfold eqInfo at hi
  split at hi
  ·rename_i d hd
   split at hi
   ·rename_i hc
    cases hx with
    | agg _ cs hl hr =>
     cases hy with
     | agg _ ds hl' hr' =>
      have key : (fitS ls l = true ∧ fitS ls m = true) → (Op.equal t (.agg cs) (.agg ds)).run P w = .ok (eqSVs l m) w := by
       rintro ⟨h1, h2⟩
       obtain ⟨f1, e1⟩ := fitS_rep (cs := cs.toList) h1 (by simpa using hl) (fun i sv hi => by simpa using hr i sv hi)
       obtain ⟨f2, e2⟩ := fitS_rep (cs := ds.toList) h2 (by simpa using hl') (fun i sv hi => by simpa using hr' i sv hi)
       rw [e1, e2, eqSVs_map]
       exact run_eq_agg hi (by omega) hd hc.1 cs ds f1 f2 w
      cases op <;> simp only [Res.pure.injEq, reduceCtorEq] at h
      ·obtain ⟨rfl, rfl⟩ := h
       refine ⟨_, ?_, .val _⟩
       rw [Sem.run_bind, run_eqGuard_agg w .eql t ox oy cs ds hc.2]
       simp only [Result.andThen_ok, binOp, Sem.run_bind, key ho, Sem.run_pure]
      ·obtain ⟨rfl, rfl⟩ := h
       refine ⟨_, ?_, .val _⟩
       rw [Sem.run_bind, run_eqGuard_agg w .neq t ox oy cs ds hc.2]
       simp only [Result.andThen_ok, binOp, Sem.run_bind, key ho, Sem.run_pure]
   ·cases hi
  ·cases hi
 ·cases h
theorem rNilS_form (P : Program) (op : BinOp) (t : TypeId) (o : Prop) (b : Bool) (v : Value) : (∃ obl sv, rNilS P op t o b v = .pure obl sv) ∨ rNilS P op t o b v = .bad := by
 unfold rNilS
 (repeat' split) <;> first | exact .inr rfl | exact .inl ⟨_, _, rfl⟩
theorem run_rNilS {op : BinOp} {t : TypeId} {o : Prop} {b : Bool} {v : Value} {obl : Prop} {sv : SV} (h : rNilS P op t o b v = .pure obl sv) (ho : obl) {u v' : Value} (hu : o → ∃ a n c, u = .slice a n c ∧ b = a.isNone) (hy : Rep r N G w (.val v) v') (ox oy : Operand) :
  ∃ z, (do eqGuard op t ox oy u v'; binOp op t u v').run P w = .ok z w ∧ Rep r N G w sv z := by
 cases hy
 unfold rNilS at h
 split at h
 ·rename_i hn
  obtain rfl := nilSlice_eq hn
  split at h
  ·rename_i ag sz ze e k ht
   obtain ⟨i, d, hi, hd, eq⟩ := tyOf_some ht
   simp only [TyI.mk.injEq] at eq
   have hd' : ∃ e', d = .slice e' := by
    obtain ⟨_, _, _, eq⟩ := eq
    cases d <;> simp only [dOf] at eq <;> first | exact ⟨_, rfl⟩ | (split at eq <;> exact absurd eq (by simp)) | exact absurd eq (by simp)
   obtain ⟨e', rfl⟩ := hd'
   cases op <;> simp only [Res.pure.injEq, reduceCtorEq] at h <;> obtain ⟨rfl, rfl⟩ := h <;> obtain ⟨a, n, c, rfl, rfl⟩ := hu ho
   ·refine ⟨_, ?_, .val _⟩
    rw [eqGuard_at_slice]
    exact Lib.run_eql_slice_nil w t e' a n c 0 0 hd
   ·refine ⟨_, ?_, .val _⟩
    rw [eqGuard_at_slice]
    exact run_neq_slice_nil_any w t e' a n c 0 0 hd
  ·simp at h
 ·simp at h
theorem run_bin {op : BinOp} {t : TypeId} {x y : SV} {obl : Prop} {sv : SV} (h : rBin P op t x y = .pure obl sv) (ho : obl) {u v : Value} (hx : Rep r N G w x u) (hy : Rep r N G w y v) (ox oy : Operand) :
  ∃ z, (do eqGuard op t ox oy u v; binOp op t u v).run P w = .ok z w ∧ Rep r N G w sv z := by
 unfold rBin at h
 split at h
 ·refine run_rNilS h ho (fun hn => ?_) hy ox oy
  cases hx with
  | arrNil => omega
  | arr => exact ⟨_, _, _, rfl, rfl⟩
 ·refine run_rNilS h ho (fun hn => ?_) hy ox oy
  cases hx with
  | vecNil => omega
  | vec => exact ⟨_, _, _, rfl, rfl⟩
 ·refine run_rNilS h ho (fun hn => ?_) hy ox oy
  cases hx with
  | cutNil => omega
  | cut => exact ⟨_, _, _, rfl, rfl⟩
 ·refine run_rNilS h ho (fun hn => ?_) hy ox oy
  cases hx with
  | asl => exact ⟨_, _, _, rfl, rfl⟩
 ·refine run_rNilS h ho (fun hn => ?_) hy ox oy
  cases hx
  exact ⟨_, _, _, rfl, rfl⟩
 ·cases hx; cases hy
  split at h
  ·rename_i e
   obtain rfl := eqKind_eq e
   obtain ⟨z, hz, rfl⟩ := run_int_bin (P := P) (w := w) t h ho
   exact ⟨z, by rw [eqGuard_at_int]; simpa using hz, .val z⟩
  ·simp at h
 ·rename_i a b
  cases hx; cases hy
  split at h
  ·rename_i ag sz ze ht
   obtain ⟨i, d, hi, hd, e⟩ := tyOf_some ht
   simp only [TyI.mk.injEq] at e
   have hd' : d = .bool := by
    obtain ⟨_, _, _, e⟩ := e
    cases d <;> simp only [dOf] at e <;> first | rfl | (split at e <;> exact absurd e (by simp)) | exact absurd e (by simp)
   subst hd'
   cases op <;> simp only [Res.pure.injEq, reduceCtorEq] at h <;> obtain ⟨rfl, rfl⟩ := h
   ·refine ⟨_, ?_, .val _⟩
    rw [eqGuard_at_bool]
    exact run_eql_bool a b hd
   ·refine ⟨_, ?_, .val _⟩
    rw [eqGuard_at_bool]
    exact run_neq_bool a b hd
  ·simp at h
 ·exact run_rEq h ho hx hy ox oy
 ·simp at h
theorem run_un {op : UnOp} {x : SV} {obl : Prop} {sv : SV} (h : rUn op x = .pure obl sv) (ho : obl) {u : Value} (hx : Rep r N G w x u) : ∃ z, (Op.unary op u).run P w = .ok z w ∧ Rep r N G w sv z := by
 unfold rUn at h
 split at h <;> simp only [Res.pure.injEq, reduceCtorEq] at h
 ·obtain ⟨rfl, rfl⟩ := h
  cases hx
  exact ⟨_, by simp only [Op.unary, Op.intArith, Sem.run_pure, wrap_inK ho], .val _⟩
 ·obtain ⟨rfl, rfl⟩ := h
  cases hx
  exact ⟨_, rfl, .val _⟩
theorem run_conv {s t : TypeId} {x : SV} {obl : Prop} {sv : SV} (h : rConv (tyOf P s) (tyOf P t) x = .pure obl sv) (ho : obl) {u : Value} (hx : Rep r N G w x u) : ∃ z, (convert s t u).run P w = .ok z w ∧ Rep r N G w sv z := by
 unfold rConv at h
 split at h <;> simp only [Res.pure.injEq, reduceCtorEq] at h
 obtain ⟨rfl, rfl⟩ := h
 rename_i si ag sz ze k q n hs ht
 cases hx
 obtain ⟨i, d, hi, hd, -⟩ := tyOf_some hs
 obtain ⟨i', d', hi', hd', e⟩ := tyOf_some ht
 have hd'' : d' = .int k := by
  simp only [TyI.mk.injEq] at e
  obtain ⟨_, _, _, e⟩ := e
  cases d' <;> simp only [dOf] at e <;> first | (cases e; rfl) | (split at e <;> exact absurd e (by simp)) | exact absurd e (by simp)
 subst hd''
 refine ⟨.int k n, ?_, .val _⟩
 simp only [convert, Sem.run_bind, run_underlying hd, run_underlying hd', Result.andThen_ok, Conv.intToInt, wrap_inK ho]
 cases d <;> rfl
end
end Go.Sx
end
section
set_option linter.unusedVariables false
set_option linter.unusedSimpArgs false
namespace Go.Sx
open Go.RowKit
structure Ok (P : Program) (r : Nat → Option Nat) (N : Nat → Prop) (G : Bool → Nat → Prop) (w : World) (hp : List (Nat × Blk)) : Prop where
 rep : ∀ id x, blk hp id = some x → N id → BlkRep r N G w (r id) x
def rLoad (ti : Option TyI) (hp : List (Nat × Blk)) (a : SV) : Res :=
 match ti with
 | some ⟨false, _, _, _⟩ =>
  match a with
  | .ptr id off => match blk hp id with
   | some (.cells _ l) => .ex (fun s => l[off]? = some s)
   | _ => .bad
  | .elt id k i j => match blk hp id with
   | some (.rows _ k' n row) => .pure (k = k' ∧ i < n ∧ j < k) (row i j)
   | _ => .bad
  | .ref _ n row => .pure (0 < n) (row 0)
  | _ => .bad
 | some ⟨true, sz, _, _⟩ =>
  match a with
  | .ptr id off => match blk hp id with
   | some (.cells _ l) => .pure (off + sz ≤ l.length) (.agg ((l.drop off).take sz))
   | _ => .bad
  | .elt id k i j => match blk hp id with
   | some (.rows _ k' n row) => .pure (k = k' ∧ i < n ∧ j + sz ≤ k) (.agg (sel (row i) j sz))
   | _ => .bad
  | .ref _ n row => .pure (sz ≤ n) (.agg (sel row 0 sz))
  | _ => .bad
 | none => .bad
def vals : List Value → List SV
 | [] => []
 | v :: l => .val v :: vals l
def rAlloc (ti : Option TyI) (t : TypeId) : Res :=
 match ti with
 | some ⟨_, _, some z, _⟩ => .new True (.cells t (vals z)) (fun id => .ptr id 0)
 | _ => .bad
def rBox (ti : Option TyI) (t : TypeId) (x : SV) : Res :=
 match ti with
 | some ⟨true, _, _, _⟩ => match x with
  | .agg l => .new True (.cells t l) (fun id => .ptr id 0)
  | _ => .bad
 | some ⟨false, _, _, _⟩ => .new (oneCell x = true) (.cells t [x]) (fun id => .ptr id 0)
 | none => .bad
def allOne : List SV → Bool
 | [] => true
 | s :: l => oneCell s && allOne l
def rStore (ti : Option TyI) (hp : List (Nat × Blk)) (a v : SV) : Res :=
 match ti with
 | some ⟨false, sz, _, _⟩ =>
  match a with
  | .ptr id off => match blk hp id with
   | some (.cells t l) => .upd (off < l.length ∧ oneCell v = true ∧ sz = 1) id (.cells t (l.set off v))
   | _ => .bad
  | .elt id k i j => match blk hp id with
   | some (.rows t k' n row) => .upd (k = k' ∧ i < n ∧ j < k ∧ oneCell v = true ∧ sz = 1) id (.rows t k' n (fun a b => if a = i ∧ b = j then v else row a b))
   | _ => .bad
  | _ => .bad
 | some ⟨true, sz, _, _⟩ =>
  match v with
  | .agg vs =>
   match a with
   | .ptr id off => match blk hp id with
    | some (.cells t l) => .upd (off + vs.length ≤ l.length ∧ vs.length = sz ∧ allOne vs = true) id (.cells t (l.take off ++ vs ++ l.drop (off + vs.length)))
    | _ => .bad
   | .elt id k i j => match blk hp id with
    | some (.rows t k' n row) => .upd (k = k' ∧ i < n ∧ j + vs.length ≤ k ∧ vs.length = sz ∧ allOne vs = true) id (.rows t k' n (fun a b => if a = i ∧ j ≤ b ∧ b < j + sz then vs.getD (b - j) .top else row a b))
    | _ => .bad
   | _ => .bad
  | _ => .bad
 | none => .bad
def rNil (x : SV) : Res :=
 match x with
 | .ptr id off => .pure True (.ptr id off)
 | .elt id k i j => .pure True (.elt id k i j)
 | .ref o n row => .pure True (.ref o n row)
 | .fn (.func f) a b => .pure True (.fn (.func f) a b)
 | _ => .bad
def rFieldAddr (ti : Option TyI) (x : SV) (i : Nat) : Res :=
 match ti with
 | some ⟨_, _, _, .struct fs⟩ =>
  match fs[i]? with
  | some (o, s, _) =>
   match x with
   | .ptr id off => .pure (s ≠ 0) (.ptr id (off + o))
   | .elt id k i j => .pure (s ≠ 0) (.elt id k i (j + o))
   | .ref b n row => .pure (s ≠ 0 ∧ o ≤ n) (.ref b (n - o) (fun j => row (o + j)))
   | _ => .bad
  | none => .bad
 | _ => .bad
def rField (ti : Option TyI) (x : SV) (i : Nat) : Res :=
 match ti with
 | some ⟨_, _, _, .struct fs⟩ =>
  match fs[i]? with
  | some (o, s, ag) =>
   match x with
   | .agg l => match ag with
    | some true => .pure (o + s ≤ l.length) (.agg ((l.drop o).take s))
    | some false => .ex (fun s => l[o]? = some s)
    | none => .bad
   | _ => .bad
  | none => .bad
 | _ => .bad
def rIndexAddr (ti : Option TyI) (x i : SV) : Res :=
 match i with
 | .val (.int _ i) =>
  match ti with
  | some ⟨_, _, _, .slice _ k⟩ =>
   match x with
   | .arr o _ n k' row => .pure (0 ≤ i ∧ i < n ∧ k' = k) (.ref o k (row i.toNat))
   | .vec id n k' => .pure (0 ≤ i ∧ i < n ∧ k' = k) (.elt id k i.toNat 0)
   | .asl id off n k' => .pure (0 ≤ i ∧ i < n ∧ k' = k) (.ptr id (off + i.toNat * k))
   | .que id off n k' => .pure (0 ≤ i ∧ i < n ∧ k' = k) (.elt id k (off + i.toNat) 0)
   | _ => .bad
  | some ⟨_, _, _, .array n _ k⟩ =>
   match x with
   | .ptr id off => .pure (0 ≤ i ∧ i < n) (.ptr id (off + i.toNat * k))
   | .ref o m row => .pure (0 ≤ i ∧ i < n ∧ i.toNat * k ≤ m) (.ref o (m - i.toNat * k) (fun j => row (i.toNat * k + j)))
   | _ => .bad
  | _ => .bad
 | _ => .bad
def rExtract (x : SV) (i : Nat) : Res :=
 match x with
 | .tup l => .ex (fun s => l[i]? = some s)
 | _ => .bad
section
variable {P : Program} {r : Nat → Option Nat} {N : Nat → Prop} {G : Bool → Nat → Prop} {w : World} {hp : List (Nat × Blk)}
def Good (P : Program) (r : Nat → Option Nat) (N : Nat → Prop) (G : Bool → Nat → Prop) (w : World) (s : Sem Value) : Res → Prop
 | .pure obl sv => obl → ∃ v, s.run P w = .ok v w ∧ Rep r N G w sv v
 | .ex obl => ∀ sv, obl sv → ∃ v, s.run P w = .ok v w ∧ Rep r N G w sv v
 | _ => True
theorem addr_add (b o n : Nat) : Addr.add ⟨b, o, none⟩ n = ⟨b, o + n, none⟩ := by unfold Addr.add; split <;> simp_all
theorem cell_at {b : Nat} {cs : Array Value} {t : TypeId} {z : Nat × Nat} (h : w.heap[b]? = some (.cells cs t z)) (j : Nat) (hj : j < cs.size) : w.cell? ⟨b, j, none⟩ = some (cs.getD j undef) := by
 simp [World.cell?, h, hj]
theorem run_load_one {t : TypeId} {ti : TyI} (ht : tyOf P t = some ti) (ha : ti.agg = false) {a : Addr} {v : Value} (hc : w.cell? a = some v) : (Instr.loadAt t (.pointer (some a))).run P w = .ok v w := by
 simp only [Instr.loadAt, Instr.sureAddr, loadVar, Sem.run_bind, Sem.run_pure, Result.andThen_ok, run_isAgg' ht, ha, Bool.false_eq_true, if_false]
 simp [run_load, hc]
theorem run_load_agg {t : TypeId} {ti : TyI} (ht : tyOf P t = some ti) (ha : ti.agg = true) {b off : Nat} (f : Nat → Value) (hc : ∀ j, j < ti.size → w.cell? ⟨b, off + j, none⟩ = some (f j)) :
  (Instr.loadAt t (.pointer (some ⟨b, off, none⟩))).run P w = .ok (.agg ((List.range ti.size).map f).toArray) w := by
 have h := run_loadCells (P := P) w ⟨b, off, none⟩ ti.size f (fun j hj => by rw [addr_add]; exact hc j hj)
 simp only [Instr.loadAt, Instr.sureAddr, loadVar, Sem.run_bind, Sem.run_pure, Result.andThen_ok, run_isAgg' ht, ha, if_true, run_sizeOf' ht, h]
theorem getD_map_range (f : Nat → Value) (n i : Nat) (h : i < n) : ((List.range n).map f).toArray.getD i undef = f i := by simp [h]
theorem Rep.agg_range {l : List SV} {f : Nat → Value} {n : Nat} (hl : l.length = n) (h : ∀ i sv, l[i]? = some sv → Rep r N G w sv (f i)) : Rep r N G w (.agg l) (.agg ((List.range n).map f).toArray) := by
 refine .agg _ _ (by simp [hl]) fun i sv hi => ?_
 have : i < n := by rw [← hl]; exact (List.getElem?_eq_some_iff.1 hi).1
 rw [getD_map_range _ _ _ this]
 exact h i sv hi
theorem run_load {t : TypeId} {a : SV} {u : Value} (hO : Ok P r N G w hp) (ha : Rep r N G w a u) :
  Good P r N G w (Instr.loadAt t u) (rLoad (tyOf P t) hp a) := by
 unfold rLoad
 split
 ·rename_i sz z d ht
  cases ha <;> try exact trivial
  case ptr id off b hN hr =>
   dsimp only
   split <;> try exact trivial
   rename_i t' l hb
   intro sv hsv
   have := hO.rep _ _ hb hN
   rw [hr] at this
   cases this with
   | cells _ _ _ cs hb' hl h =>
    have hlt : off < cs.size := by rw [← hl]; exact (List.getElem?_eq_some_iff.1 hsv).1
    exact ⟨_, run_load_one ht rfl (cell_at hb' off hlt), h off sv hsv⟩
  case elt id k i j b hN hr =>
   dsimp only
   split <;> try exact trivial
   rename_i t' k' n row hb
   rintro ⟨rfl, hi, hj⟩
   have := hO.rep _ _ hb hN
   rw [hr] at this
   cases this with
   | rows _ _ _ _ _ cs hb' hl h =>
    have hlt : i * k + j < cs.size := by
     have : i * k + k ≤ n * k := by rw [← Nat.succ_mul]; exact Nat.mul_le_mul_right _ hi
     omega
    exact ⟨_, run_load_one ht rfl (cell_at hb' _ hlt), h i j hi hj⟩
  case ref o n row b off f hG hc h =>
   intro h0
   exact ⟨_, run_load_one ht rfl (by have := hc 0 h0; simpa using this), h 0 h0⟩
 ·rename_i sz z d ht
  cases ha <;> try exact trivial
  case ptr id off b hN hr =>
   dsimp only
   split <;> try exact trivial
   rename_i t' l hb
   intro hlen
   have := hO.rep _ _ hb hN
   rw [hr] at this
   cases this with
   | cells _ _ _ cs hb' hl h =>
    refine ⟨_, run_load_agg ht rfl (fun j => cs.getD (off + j) undef) (fun j hj => cell_at hb' _ (by simp only at hj; omega)), Rep.agg_range (by simp; omega) fun i sv hi => ?_⟩
    rw [List.getElem?_take] at hi
    split at hi
    ·rw [List.getElem?_drop] at hi; exact h _ sv hi
    ·cases hi
  case elt id k i j b hN hr =>
   dsimp only
   split <;> try exact trivial
   rename_i t' k' n row hb
   rintro ⟨rfl, hi, hj⟩
   have := hO.rep _ _ hb hN
   rw [hr] at this
   cases this with
   | rows _ _ _ _ _ cs hb' hl h =>
    have hlt : i * k + k ≤ cs.size := by
     have : i * k + k ≤ n * k := by rw [← Nat.succ_mul]; exact Nat.mul_le_mul_right _ hi
     omega
    refine ⟨_, run_load_agg ht rfl (fun c => cs.getD (i * k + j + c) undef) (fun c hc => cell_at hb' _ (by simp only at hc; omega)), Rep.agg_range (sel_length _ _ _) fun c sv hc => ?_⟩
    rw [sel_get] at hc
    split at hc
    ·cases hc
     rename_i hcs
     rw [Nat.add_assoc]
     exact h i (j + c) hi (by omega)
    ·cases hc
  case ref o n row b off f hG hc h =>
   intro h0
   refine ⟨_, run_load_agg ht rfl f (fun j hj => hc j (by simp only at hj; omega)), Rep.agg_range (sel_length _ _ _) fun c sv hc => ?_⟩
   rw [sel_get] at hc
   split at hc
   ·cases hc
    rw [Nat.zero_add]
    exact h c (by omega)
   ·cases hc
 ·trivial
theorem struct_of {t : TypeId} {ti : TyI} (ht : tyOf P t = some ti) {fs : List (Nat × Nat × Option Bool)} (hd : ti.d = .struct fs) :
  ∃ fds : Array Field, P.underlying t = some (.struct fds) ∧ fs = fds.toList.map fun f => (f.offset, P.cellsOf f.type, (P.underlying f.type).map aggOf) := by
 obtain ⟨i, d, hi, hu, rfl⟩ := tyOf_some ht
 cases d <;> simp only [dOf] at hd <;> first | (cases hd; exact ⟨_, hu, rfl⟩) | (split at hd <;> exact absurd hd (by simp)) | exact absurd hd (by simp)
theorem slice_of {t : TypeId} {ti : TyI} (ht : tyOf P t = some ti) {e : TypeId} {k : Nat} (hd : ti.d = .slice e k) : ∃ i, P.underlying t = some (.slice e) ∧ P.info? e = some i ∧ i.size = k := by
 obtain ⟨i, d, hi, hu, rfl⟩ := tyOf_some ht
 cases d <;> simp only [dOf] at hd
 case slice e' =>
  split at hd
  ·rename_i i' hi'
   cases hd
   exact ⟨i', hu, hi', rfl⟩
  ·cases hd
 all_goals first | (split at hd <;> exact absurd hd (by simp)) | exact absurd hd (by simp)
theorem array_of {t : TypeId} {ti : TyI} (ht : tyOf P t = some ti) {e : TypeId} {n k : Nat} (hd : ti.d = .array n e k) : ∃ i, P.underlying t = some (.array n e) ∧ P.info? e = some i ∧ i.size = k := by
 obtain ⟨i, d, hi, hu, rfl⟩ := tyOf_some ht
 cases d <;> simp only [dOf] at hd
 case array n' e' =>
  split at hd
  ·rename_i i' hi'
   cases hd
   exact ⟨i', hu, hi', rfl⟩
  ·cases hd
 all_goals first | (split at hd <;> exact absurd hd (by simp)) | exact absurd hd (by simp)
theorem run_sizeOf_info {e : TypeId} {i : TypeInfo} (h : P.info? e = some i) (w : World) : (sizeOf e).run P w = .ok i.size w := by simp [sizeOf, typeInfo, h]
theorem run_fieldAt' {s : TypeId} {fds : Array Field} (hu : P.underlying s = some (.struct fds)) {i : Nat} {f : Field} (hf : fds[i]? = some f) (hz : P.cellsOf f.type ≠ 0) (a : Addr) :
  (Instr.fieldAt s (.pointer (some a)) i).run P w = .ok (.pointer (some (a.add f.offset))) w := by
 cases hi : P.info? f.type with
 | none => simp [Program.cellsOf, hi] at hz
 | some ii =>
  have hs : ii.size ≠ 0 := by simpa [Program.cellsOf, hi] using hz
  simp only [Instr.fieldAt, Sem.run_bind, run_underlying hu, Result.andThen_ok]
  simp only [hf, Instr.sureAddr, fieldPlace, Sem.run_bind, Sem.run_pure, Result.andThen_ok, run_sizeOf_info hi, if_neg hs]
theorem run_fieldAddr {s : TypeId} {x : SV} {i : Nat} {u : Value} (hx : Rep r N G w x u) :
  Good P r N G w (Instr.fieldAt s u i) (rFieldAddr (tyOf P s) x i) := by
 unfold rFieldAddr
 split
 ·rename_i ag sz z fs ht
  obtain ⟨fds, hu, rfl⟩ := struct_of ht rfl
  split
  ·rename_i o s g hf
   rw [List.getElem?_map] at hf
   cases hf' : fds.toList[i]? with
   | none => simp [hf'] at hf
   | some f =>
    simp only [hf', Option.map_some, Option.some.injEq, Prod.mk.injEq] at hf
    obtain ⟨rfl, rfl, _⟩ := hf
    have hf'' : fds[i]? = some f := by simpa using hf'
    cases hx <;> try exact trivial
    case ptr id off b hN hr =>
     intro hz
     exact ⟨_, by rw [run_fieldAt' hu hf'' hz, addr_add], .ptr _ _ _ hN hr⟩
    case elt id k i j b hN hr =>
     intro hz
     refine ⟨_, by rw [run_fieldAt' hu hf'' hz, addr_add], ?_⟩
     rw [Nat.add_assoc]
     exact .elt _ _ _ _ _ hN hr
    case ref o n row b off g hG hc h =>
     rintro ⟨hz, hn⟩
     refine ⟨_, by rw [run_fieldAt' hu hf'' hz, addr_add], .ref _ _ _ _ _ (fun j => g (f.offset + j)) hG (fun j hj => ?_) (fun j hj => h _ (by omega))⟩
     rw [Nat.add_assoc]
     exact hc _ (by omega)
  ·trivial
 ·trivial
theorem run_indexAddr {t : TypeId} {x i : SV} {u v : Value} (hx : Rep r N G w x u) (hi : Rep r N G w i v) :
  Good P r N G w (Instr.indexAt t u v) (rIndexAddr (tyOf P t) x i) := by
 unfold rIndexAddr
 split
 ·rename_i kk i
  cases hi
  split
  ·rename_i ag sz z e k ht
   obtain ⟨ei, hu, hei, hk⟩ := slice_of ht rfl
   have key : ∀ (a : Addr) (n c : Nat), 0 ≤ i → i < n → (Instr.indexAt t (.slice (some a) n c) (.int kk i)).run P w = .ok (.pointer (some (a.add (i.toNat * k)))) w := by
    intro a n c h0 h1
    simp only [Instr.indexAt, asIntOf, Sem.run_bind, Sem.run_pure, Result.andThen_ok, run_underlying hu]
    simp only [h0, h1, and_self, if_true, Sem.run_bind, run_sizeOf_info hei, Result.andThen_ok, Sem.run_pure, hk]
   cases hx <;> try exact trivial
   case arrNil => rintro ⟨h0, h1, _⟩; exact absurd h1 (by simp; omega)
   case arr o full n k' row b off cap f hG hf hcap hc h =>
    rintro ⟨h0, h1, rfl⟩
    have hi' : i.toNat < n := by omega
    refine ⟨_, key _ _ _ h0 h1, ?_⟩
    rw [addr_add]
    exact .ref _ _ _ _ _ (f i.toNat) hG (fun j hj => by rw [Nat.add_assoc]; exact hc _ _ hi' hj) (fun j hj => h _ _ hi' hj)
   case vecNil => rintro ⟨h0, h1, _⟩; exact absurd h1 (by simp; omega)
   case vec id n k' b cap cs t' hN hr hb hs hcap hm =>
    rintro ⟨h0, h1, rfl⟩
    refine ⟨_, key _ _ _ h0 h1, ?_⟩
    rw [addr_add, Nat.zero_add]
    exact .elt _ _ _ 0 _ hN hr
   case asl id off n k' b cap hN hr hcap =>
    rintro ⟨h0, h1, rfl⟩
    refine ⟨_, key _ _ _ h0 h1, ?_⟩
    rw [addr_add]
    exact .ptr _ _ _ hN hr
   case queNil => rintro ⟨h0, h1, _⟩; exact absurd h1 (by simp; omega)
   case que id off n k' b cap cs t' hN hr hb hs hcap hm =>
    rintro ⟨h0, h1, rfl⟩
    refine ⟨_, key _ _ _ h0 h1, ?_⟩
    rw [addr_add, ← Nat.add_mul]
    exact .elt _ _ _ 0 _ hN hr
  ·rename_i ag sz z n e k ht
   obtain ⟨ei, hu, hei, hk⟩ := array_of ht rfl
   have key : ∀ (a : Addr), 0 ≤ i → i < n → (Instr.indexAt t (.pointer (some a)) (.int kk i)).run P w = .ok (.pointer (some (a.add (i.toNat * k)))) w := by
    intro a h0 h1
    simp only [Instr.indexAt, asIntOf, Sem.run_bind, Sem.run_pure, Result.andThen_ok, run_underlying hu, Instr.sureAddr]
    simp only [h0, h1, and_self, if_true, Sem.run_bind, run_sizeOf_info hei, Result.andThen_ok, Sem.run_pure, hk]
   cases hx <;> try exact trivial
   case ptr id off b hN hr =>
    rintro ⟨h0, h1⟩
    refine ⟨_, key _ h0 h1, ?_⟩
    rw [addr_add]
    exact .ptr _ _ _ hN hr
   case ref o m row b off f hG hc h =>
    rintro ⟨h0, h1, h2⟩
    refine ⟨_, key _ h0 h1, ?_⟩
    rw [addr_add]
    exact .ref _ _ _ _ _ (fun j => f (i.toNat * k + j)) hG (fun j hj => by rw [Nat.add_assoc]; exact hc _ (by omega)) (fun j hj => h _ (by omega))
  ·trivial
 ·trivial
theorem run_extract {x : SV} {i : Nat} {u : Value} (hx : Rep r N G w x u) :
  Good P r N G w (Instr.extract u i) (rExtract x i) := by
 cases hx <;> try exact trivial
 case tup l cs hl h =>
  intro sv hsv
  have hlt : i < cs.size := by rw [← hl]; exact (List.getElem?_eq_some_iff.1 hsv).1
  refine ⟨cs.getD i undef, ?_, h i sv hsv⟩
  simp [Instr.extract, hlt]
theorem run_field {s : TypeId} {x : SV} {i : Nat} {u : Value} (hx : Rep r N G w x u) :
  Good P r N G w (Instr.field s u i) (rField (tyOf P s) x i) := by
 unfold rField
 split
 ·rename_i ag sz z fs ht
  obtain ⟨fds, hu, rfl⟩ := struct_of ht rfl
  split
  ·rename_i o s g hf
   rw [List.getElem?_map] at hf
   cases hf' : fds.toList[i]? with
   | none => simp [hf'] at hf
   | some f =>
    simp only [hf', Option.map_some, Option.some.injEq, Prod.mk.injEq] at hf
    obtain ⟨rfl, rfl, rfl⟩ := hf
    have hf'' : fds[i]? = some f := by simpa using hf'
    cases hx <;> try exact trivial
    case agg l cs hl h =>
     cases hd : P.underlying f.type with
     | none => exact trivial
     | some d =>
      have hag : (isAgg f.type).run P w = .ok (aggOf d) w := by
       simp only [isAgg, Sem.run_bind, run_underlying hd, Result.andThen_ok]
       cases d <;> rfl
      cases ha : aggOf d with
      | false =>
       simp only [Option.map_some, ha]
       intro sv hsv
       have hlt : f.offset < cs.size := by rw [← hl]; exact (List.getElem?_eq_some_iff.1 hsv).1
       refine ⟨_, ?_, h _ sv hsv⟩
       simp only [Instr.field, Sem.run_bind, run_underlying hu, Result.andThen_ok, hf'', asAgg, Sem.run_pure, part, hag, ha, Bool.false_eq_true, if_false]
       simp [hlt]
      | true =>
       simp only [Option.map_some, ha]
       intro hlen
       cases hi : P.info? f.type with
       | none => simp [Program.underlying, hi] at hd
       | some ii =>
        have hcs : P.cellsOf f.type = ii.size := by simp [Program.cellsOf, hi]
        rw [hcs] at hlen ⊢
        refine ⟨.agg (cs.extract f.offset (f.offset + ii.size)), ?_, .agg _ _ (by simp; omega) fun c sv hc => ?_⟩
        ·simp only [Instr.field, Sem.run_bind, run_underlying hu, Result.andThen_ok, hf'', asAgg, Sem.run_pure, part, hag, ha, if_true, run_sizeOf_info hi]
        ·rw [List.getElem?_take] at hc
         split at hc
         ·rw [List.getElem?_drop] at hc
          have := h _ sv hc
          have hlt : f.offset + c < cs.size := by rw [← hl]; exact (List.getElem?_eq_some_iff.1 hc).1
          have e : (cs.extract f.offset (f.offset + ii.size)).getD c undef = cs.getD (f.offset + c) undef := by
           simp only [Array.getD_eq_getD_getElem?, Array.getElem?_extract]
           rw [if_pos (by omega)]
          rw [e]; exact this
         ·cases hc
  ·trivial
 ·trivial
end
end Go.Sx
end
section
set_option linter.unusedVariables false
set_option linter.unusedSimpArgs false
namespace Go.Sx
open Go.RowKit
section
variable {P : Program} {base : World} {okc : Nat → Prop} {r : Nat → Option Nat} {N : Nat → Prop} {w : World} {hp : List (Nat × Blk)}
def GoodN (P : Program) (base : World) (okc : Nat → Prop) (r : Nat → Option Nat) (N : Nat → Prop) (hp : List (Nat × Blk)) (w : World) (s : Sem Value) : Res → Prop
 | .new obl b mk => obl → ∀ id hp', ¬ N id → blk hp' id = some b → (∀ j, N j → blk hp' j = blk hp j) → ∃ v w' r', s.run P w = .ok v w' ∧ Step base okc r N hp w r' (plus N id) hp' w' ∧ Rep r' (plus N id) (Gd base okc r' (plus N id) hp' w') w' (mk id) v
 | _ => True
def GoodU (P : Program) (base : World) (okc : Nat → Prop) (r : Nat → Option Nat) (N : Nat → Prop) (hp : List (Nat × Blk)) (w : World) (s : Sem Unit) : Res → Prop
 | .upd obl id b => obl → ∃ w', s.run P w = .ok () w' ∧ Step base okc r N hp w r N (setBlk hp id b) w'
 | _ => True
theorem Sat.ok (h : Sat base okc r N hp w) : Ok P r N (Gd base okc r N hp w) w hp := ⟨h.rep⟩
theorem vals_length (z : List Value) : (vals z).length = z.length := by induction z <;> simp [vals, *]
theorem vals_get (z : List Value) (i : Nat) : (vals z)[i]? = (z[i]?).map SV.val := by
 induction z generalizing i with
 | nil => simp [vals]
 | cons a z ih => cases i <;> simp [vals, ih]
theorem new_cells (h : Sat base okc r N hp w) (t : TypeId) (l : List SV) (cs : Array Value) (hl : l.length = cs.size) (hc : ∀ i sv, l[i]? = some sv → Rep r N (Gd base okc r N hp w) w sv (cs.getD i undef)) (id : Nat) {hp' : List (Nat × Blk)} (hid : ¬ N id) (hat : blk hp' id = some (.cells t l)) (hoth : ∀ j, N j → blk hp' j = blk hp j) :
  ∃ r', r' id = some w.heap.size ∧ Step base okc r N hp w r' (plus N id) hp' (w.alloc (.cells cs t)) :=
 ⟨_, upd_same _ _ _, h.new id hid _ _ hat hoth fun r' N' G' h1 h2 h3 h4 h5 => .cells t l _ cs (heap_alloc_at w _) hl fun i sv hi =>
  (hc i sv hi).mono h1 h3 (fun o b hb => ⟨h5 o b hb, heap_alloc_old w _ hb.1⟩) (Shapes.alloc w _)⟩
theorem run_alloc (h : Sat base okc r N hp w) (t : TypeId) : GoodN P base okc r N hp w (Instr.alloc t true (.tuple #[])) (rAlloc (tyOf P t) t) := by
 unfold rAlloc
 split
 ·rename_i ag sz z d ht
  intro _ id hp' hid hat hoth
  obtain ⟨v, hv, hz⟩ := run_zeroValue' ht rfl w
  obtain ⟨r', hr', hs⟩ := new_cells h t (vals z) v.cells (by rw [vals_length, ← hz]; simp) (fun i sv hi => by
   rw [vals_get, ← hz] at hi
   cases hv' : v.cells.toList[i]? with
   | none => simp [hv'] at hi
   | some u =>
    simp only [hv', Option.map_some, Option.some.injEq] at hi
    subst hi
    have : v.cells.getD i undef = u := by simp at hv'; simp [hv']
    rw [this]; exact .val u) id hid hat hoth
  refine ⟨.pointer (some ⟨w.heap.size, 0, none⟩), _, r', ?_, hs, .ptr _ _ _ (.inr rfl) hr'⟩
  simp only [Instr.alloc, Sem.run_bind, hv, Result.andThen_ok, newVar, newRow, run_newObj, Sem.run_pure]
  rfl
 ·trivial
theorem cells_one {v : Value} (h : v.oneCell' = true) : v.cells = #[v] := by cases v <;> simp [Value.oneCell', Value.cells] at h ⊢
theorem run_box (h : Sat base okc r N hp w) (t : TypeId) {x : SV} {u : Value} (hx : Rep r N (Gd base okc r N hp w) w x u) : GoodN P base okc r N hp w (Instr.box t u) (rBox (tyOf P t) t x) := by
 unfold rBox
 split
 ·split
  ·rename_i l
   intro _ id hp' hid hat hoth
   cases hx with
   | agg _ cs hl hc =>
    obtain ⟨r', hr', hs⟩ := new_cells h t l cs hl hc id hid hat hoth
    refine ⟨.pointer (some ⟨w.heap.size, 0, none⟩), _, r', ?_, hs, .ptr _ _ _ (.inr rfl) hr'⟩
    simp only [Instr.box, newVar, newRow, Value.cells, Sem.run_bind, run_newObj, Result.andThen_ok, Sem.run_pure]
    rfl
  ·trivial
 ·intro h1 id hp' hid hat hoth
  obtain ⟨r', hr', hs⟩ := new_cells h t [x] #[u] rfl (fun i sv hi => by
   cases i with
   | zero => simp at hi; subst hi; exact hx
   | succ i => simp at hi) id hid hat hoth
  refine ⟨.pointer (some ⟨w.heap.size, 0, none⟩), _, r', ?_, hs, .ptr _ _ _ (.inr rfl) hr'⟩
  simp only [Instr.box, newVar, newRow, cells_one (hx.one h1), Sem.run_bind, run_newObj, Result.andThen_ok, Sem.run_pure]
  rfl
 ·trivial
theorem setRow_other (w : World) (g : Nat) (cs : Array Value) {c : Nat} (h : c ≠ g) : (w.setRow g cs).heap[c]? = w.heap[c]? := by
 simp only [World.setRow, Array.getElem?_modify]
 rw [if_neg (Ne.symm h)]
theorem setRow_size (w : World) (g : Nat) (cs : Array Value) : (w.setRow g cs).heap.size = w.heap.size := by simp [World.setRow]
theorem setRow_below {B : Nat} {a w : World} (h : Below B a w) {g : Nat} (hg : B ≤ g) (cs : Array Value) : Below B a (w.setRow g cs) :=
 h.trans ⟨rfl, rfl, rfl, by rw [setRow_size]; exact Nat.le_refl _, fun k hk => setRow_other w g cs (by omega)⟩
theorem setRow_shapes {w : World} {g : Nat} {old cs : Array Value} {t : TypeId} {z : Nat × Nat} (hg : w.heap[g]? = some (.cells old t z)) (hs : cs.size = old.size) : Shapes w (w.setRow g cs) := by
 intro b cs' t' z' hb
 by_cases e : b = g
 ·subst e
  rw [hg] at hb; cases hb
  exact ⟨cs, setRow_heap w b old cs t z hg, hs⟩
 ·exact ⟨cs', (setRow_other w g cs e).trans hb, rfl⟩
theorem allOne_spec : ∀ {vs : List SV}, allOne vs = true → ∀ s ∈ vs, oneCell s = true
 | [], _, s, hs => by cases hs
 | a :: l, h, s, hs => by
  simp only [allOne, Bool.and_eq_true] at h
  rcases List.mem_cons.1 hs with e | e
  ·subst e; exact h.1
  ·exact allOne_spec h.2 s e
theorem store_cells (h : Sat base okc r N hp w) {id : Nat} {x : Blk} (hm : blk hp id = some x) (hN : N id) {b : Nat} (hr : r id = some b) {t : TypeId} {cs : Array Value} (hb : w.heap[b]? = some (.cells cs t (0, 0)))
  (off : Nat) (vs : List Value) (hlen : off + vs.length ≤ cs.size) (h1 : ∀ v ∈ vs, v.oneCell' = true) (x' : Blk)
  (hx' : ∀ G' w' cs', w'.heap[b]? = some (.cells cs' t (0, 0)) → cs'.size = cs.size → (∀ j, cs'.getD j undef = if off ≤ j ∧ j < off + vs.length then vs.getD (j - off) undef else cs.getD j undef) →
   (∀ sv v, Rep r N (Gd base okc r N hp w) w sv v → Rep r N G' w' sv v) → BlkRep r N G' w' (some b) x') :
  ∃ w', (storeCells ⟨b, off, none⟩ vs).run P w = .ok () w' ∧ Step base okc r N hp w r N (setBlk hp id x') w' := by
 have hrun := run_storeCells_at P b off t vs 0 cs w hb (by simpa using hlen) h1
 simp only [Nat.add_zero] at hrun
 have hcs : (cs.toList.take off ++ vs ++ cs.toList.drop (off + vs.length)).toArray.size = cs.size := by simp; omega
 have hsh := setRow_shapes hb hcs
 refine ⟨_, hrun, h.upd hm hN hr x' (setRow_below h.below (h.own _ _ _ hm hN hr) _) hsh (by rw [setRow_size]; exact Nat.le_refl _) (fun c hc => setRow_other w b _ hc) fun G' hG' => ?_⟩
 refine hx' G' _ _ (setRow_heap w b cs _ t _ hb) hcs (fun j => ?_) fun sv v hv => hv.mono (fun _ _ => rfl) (fun _ h => h) (fun o c hc => ⟨hG' o c hc, setRow_other w b _ fun e => hc.2.1 id x hm hN (e ▸ hr)⟩) hsh
 simp only [Array.getD_eq_getD_getElem?, List.getElem?_toArray]
 by_cases hj : off ≤ j ∧ j < off + vs.length
 ·rw [if_pos hj, List.append_assoc, List.getElem?_append_right (by simp; omega), List.getElem?_append_left (by simp; omega)]
  have : min off cs.toList.length = off := by simp; omega
  rw [List.length_take, this, List.getD_eq_getElem?_getD]
 ·rw [if_neg hj]
  by_cases hj' : j < off
  ·rw [List.append_assoc, List.getElem?_append_left (by simp; omega), List.getElem?_take_of_lt hj']
   simp
  ·rw [List.getElem?_append_right (by simp; omega), List.getElem?_drop]
   have e : off + vs.length + (j - (cs.toList.take off ++ vs).length) = j := by simp; omega
   rw [e]; simp
theorem run_store (h : Sat base okc r N hp w) (t : TypeId) {a v : SV} {p u : Value} (ha : Rep r N (Gd base okc r N hp w) w a p) (hv : Rep r N (Gd base okc r N hp w) w v u) :
  GoodU P base okc r N hp w (Instr.storeAt t p u) (rStore (tyOf P t) hp a v) := by
 unfold rStore
 split
 ·rename_i sz z d ht
  split
  ·rename_i id off
   split
   ·rename_i t' l hb
    rintro ⟨hoff, h1, rfl⟩
    cases ha with
    | ptr _ _ b hN hr =>
     have hm := hb
     have hrep := h.rep _ _ hm hN
     rw [hr] at hrep
     cases hrep with
     | cells _ _ _ cs hb' hl hc =>
      have h1' := hv.one h1
      obtain ⟨w', hrun, hst⟩ := store_cells (P := P) h hm hN hr hb' off [u] (by simp; omega) (fun x hx => by simp at hx; subst hx; exact h1') (.cells t' (l.set off v)) (fun G' w' cs' hw' hsz hget hrep => by
       refine .cells _ _ _ cs' hw' (by simp [hl, hsz]) fun i sv hi => ?_
       rw [hget]
       rw [List.getElem?_set] at hi
       by_cases e : off = i
       ·subst e
        rw [if_pos rfl, if_pos hoff] at hi
        cases hi
        rw [if_pos (by simp)]
        simpa using hrep _ _ hv
       ·rw [if_neg e] at hi
        rw [if_neg (by simp; omega)]
        exact hrep _ _ (hc i sv hi))
      refine ⟨w', ?_, hst⟩
      simp only [Instr.storeAt, Instr.sureAddr, storeVar, cells_one h1', Sem.run_bind, Sem.run_pure, Result.andThen_ok, run_sizeOf' ht]
      simpa using hrun
   ·trivial
  ·rename_i id k i j
   split
   ·rename_i t' k' n row hb
    rintro ⟨rfl, hi, hj, h1, rfl⟩
    cases ha with
    | elt _ _ _ _ b hN hr =>
     have hm := hb
     have hrep := h.rep _ _ hm hN
     rw [hr] at hrep
     cases hrep with
     | rows _ _ _ _ _ cs hb' hl hc =>
      have h1' := hv.one h1
      have hik : i * k + k ≤ n * k := by rw [← Nat.succ_mul]; exact Nat.mul_le_mul_right _ hi
      obtain ⟨w', hrun, hst⟩ := store_cells (P := P) h hm hN hr hb' (i * k + j) [u] (by simp; omega) (fun x hx => by simp at hx; subst hx; exact h1') (.rows t' k n (fun a b => if a = i ∧ b = j then v else row a b)) (fun G' w' cs' hw' hsz hget hrep => by
       refine .rows _ _ _ _ _ cs' hw' (by omega) fun a c ha hc' => ?_
       rw [hget]
       by_cases e : a = i ∧ c = j
       ·obtain ⟨rfl, rfl⟩ := e
        rw [if_pos (⟨rfl, rfl⟩ : a = a ∧ c = c), if_pos (by simp)]
        simpa using hrep _ _ hv
       ·rw [if_neg e, if_neg]
        ·exact hrep _ _ (hc a c ha hc')
        ·rintro ⟨e1, e2⟩
         simp only [List.length_cons, List.length_nil] at e2
         have e3 : a * k + c = i * k + j := by omega
         have : a = i := by
          have h1 : (a * k + c) / k = a := by rw [Nat.mul_comm, Nat.mul_add_div (by omega), Nat.div_eq_of_lt hc']; omega
          have h2 : (i * k + j) / k = i := by rw [Nat.mul_comm, Nat.mul_add_div (by omega), Nat.div_eq_of_lt hj]; omega
          rw [← h1, ← h2, e3]
         subst this
         exact e ⟨rfl, by omega⟩)
      refine ⟨w', ?_, hst⟩
      simp only [Instr.storeAt, Instr.sureAddr, storeVar, cells_one h1', Sem.run_bind, Sem.run_pure, Result.andThen_ok, run_sizeOf' ht]
      simpa using hrun
   ·trivial
  ·trivial
 ·rename_i sz z d ht
  split
  ·rename_i vs
   cases hv with
   | agg _ us hus hrv =>
    have hone : allOne vs = true → ∀ x ∈ us.toList, x.oneCell' = true := fun h1 x hx => by
     obtain ⟨i, hi, rfl⟩ := List.getElem_of_mem hx
     have hi' : i < vs.length := by rw [hus]; simpa using hi
     have := (hrv i vs[i] (by simp [hi'])).one (allOne_spec h1 _ (List.getElem_mem hi'))
     simp at hi
     simpa [hi] using this
    have hrv' : ∀ i sv, vs[i]? = some sv → Rep r N (Gd base okc r N hp w) w sv (us.toList.getD i undef) := fun i sv hi => by
     have := hrv i sv hi
     simpa using this
    split
    ·rename_i id off
     split
     ·rename_i t' l hb
      rintro ⟨hoff, rfl, h1⟩
      cases ha with
      | ptr _ _ b hN hr =>
       have hm := hb
       have hrep := h.rep _ _ hm hN
       rw [hr] at hrep
       cases hrep with
       | cells _ _ _ cs hb' hl hc =>
        obtain ⟨w', hrun, hst⟩ := store_cells (P := P) h hm hN hr hb' off us.toList (by simp; omega) (hone h1) (.cells t' (l.take off ++ vs ++ l.drop (off + vs.length))) (fun G' w' cs' hw' hsz hget hrep => by
         refine .cells _ _ _ cs' hw' (by simp; omega) fun i sv hi => ?_
         rw [hget]
         have hul : us.toList.length = vs.length := by simp [hus]
         rw [hul]
         by_cases hj : off ≤ i ∧ i < off + vs.length
         ·rw [List.append_assoc, List.getElem?_append_right (by simp; omega), List.getElem?_append_left (by simp; omega)] at hi
          have : min off l.length = off := by omega
          rw [List.length_take, this] at hi
          rw [if_pos hj]
          exact hrep _ _ (hrv' _ sv hi)
         ·rw [if_neg hj]
          refine hrep _ _ (hc i sv ?_)
          by_cases hj' : i < off
          ·rw [List.append_assoc, List.getElem?_append_left (by simp; omega), List.getElem?_take_of_lt hj'] at hi
           exact hi
          ·rw [List.getElem?_append_right (by simp; omega), List.getElem?_drop] at hi
           have e : off + vs.length + (i - (l.take off ++ vs).length) = i := by simp; omega
           rwa [e] at hi)
        refine ⟨w', ?_, hst⟩
        simp only [Instr.storeAt, Instr.sureAddr, storeVar, Value.cells, Sem.run_bind, Sem.run_pure, Result.andThen_ok, run_sizeOf' ht]
        simp only [hus, ne_eq, not_true_eq_false, if_false]
        exact hrun
     ·trivial
    ·rename_i id k i j
     split
     ·rename_i t' k' n row hb
      rintro ⟨rfl, hi, hj, rfl, h1⟩
      cases ha with
      | elt _ _ _ _ b hN hr =>
       have hm := hb
       have hrep := h.rep _ _ hm hN
       rw [hr] at hrep
       cases hrep with
       | rows _ _ _ _ _ cs hb' hl hc =>
        have hik : i * k + k ≤ n * k := by rw [← Nat.succ_mul]; exact Nat.mul_le_mul_right _ hi
        obtain ⟨w', hrun, hst⟩ := store_cells (P := P) h hm hN hr hb' (i * k + j) us.toList (by simp; omega) (hone h1) (.rows t' k n (fun a b => if a = i ∧ j ≤ b ∧ b < j + vs.length then vs.getD (b - j) .top else row a b)) (fun G' w' cs' hw' hsz hget hrep => by
         refine .rows _ _ _ _ _ cs' hw' (by omega) fun a c ha hc' => ?_
         rw [hget]
         have hul : us.toList.length = vs.length := by simp [hus]
         rw [hul]
         by_cases e : a = i ∧ j ≤ c ∧ c < j + vs.length
         ·obtain ⟨rfl, e1, e2⟩ := e
          rw [if_pos (⟨rfl, e1, e2⟩ : a = a ∧ j ≤ c ∧ c < j + vs.length), if_pos (by omega)]
          have e3 : a * k + c - (a * k + j) = c - j := by omega
          rw [e3]
          refine hrep _ _ (hrv' _ _ ?_)
          have : c - j < vs.length := by omega
          simp [this]
         ·rw [if_neg e, if_neg]
          ·exact hrep _ _ (hc a c ha hc')
          ·rintro ⟨e1, e2⟩
           have hcase : a < i ∨ a = i ∨ i < a := by omega
           rcases hcase with h | h | h
           ·have : a * k + k ≤ i * k := by rw [← Nat.succ_mul]; exact Nat.mul_le_mul_right _ h
            omega
           ·subst h
            exact e ⟨rfl, by omega, by omega⟩
           ·have : i * k + k ≤ a * k := by rw [← Nat.succ_mul]; exact Nat.mul_le_mul_right _ h
            omega)
        refine ⟨w', ?_, hst⟩
        simp only [Instr.storeAt, Instr.sureAddr, storeVar, Value.cells, Sem.run_bind, Sem.run_pure, Result.andThen_ok, run_sizeOf' ht]
        simp only [hus, ne_eq, not_true_eq_false, if_false]
        exact hrun
     ·trivial
    ·trivial
  ·trivial
 ·trivial
end
end Go.Sx
end
section
set_option linter.unusedVariables false
set_option linter.unusedSimpArgs false
namespace Go.Sx
open Go.RowKit
section
variable {P : Program} {base : World} {okc : Nat → Prop} {r : Nat → Option Nat} {N : Nat → Prop} {G : Bool → Nat → Prop} {w : World} {hp : List (Nat × Blk)}
theorem Sat.exch (h : Sat base okc r N hp w) {w' : World} (id : Nat) (hid : ¬ N id) (old : Option Nat) {hp' : List (Nat × Blk)} (b : Blk) (nb : Option Nat)
  (hat : blk hp' id = some b) (hoth : ∀ j, N j → some j ≠ old → blk hp' j = blk hp j) (hdrop : ∀ o, old = some o → blk hp' o = none)
  (hbel : Below base.heap.size base w') (hs : Shapes w w') (hsz : w.heap.size ≤ w'.heap.size)
  (hunch : ∀ c, c < w.heap.size → (∀ o x, old = some o → blk hp o = some x → N o → r o = some c → False) → w'.heap[c]? = w.heap[c]?)
  (hnb : ∀ c, nb = some c → (∃ o x, old = some o ∧ blk hp o = some x ∧ N o ∧ r o = some c) ∨ w.heap.size ≤ c)
  (hx : ∀ r' N' G', (∀ i, N i → r' i = r i) → (∀ i, N i → N' i) → (∀ o c, Gd base okc r N hp w o c → G' o c ∧ w'.heap[c]? = w.heap[c]?) → (∀ o c, w.heap.size ≤ c → c < w'.heap.size → nb ≠ some c → G' o c) → BlkRep r' N' G' w' nb b) :
  Step base okc r N hp w (Go.Sx.upd r id nb) (plus N id) hp' w' := by
 have ne : ∀ i, N i → i ≠ id := fun i hi e => hid (e ▸ hi)
 have hr : ∀ i, N i → Go.Sx.upd r id nb i = r i := fun i hi => upd_other _ (ne i hi)
 have hback : ∀ i y, N i → blk hp' i = some y → some i ≠ old ∧ blk hp i = some y := fun i y hi hy => by
  have h1 : some i ≠ old := fun e => by rw [hdrop i e.symm] at hy; cases hy
  exact ⟨h1, by rw [← hoth i hi h1]; exact hy⟩
 have hG : ∀ o' c, Gd base okc r N hp w o' c → Gd base okc (Go.Sx.upd r id nb) (plus N id) hp' w' o' c ∧ w'.heap[c]? = w.heap[c]? := fun o' c ⟨h1, h2, h3⟩ =>
  ⟨⟨by omega, fun i y hy hN => by
   rcases hN with e | e
   ·rw [hr _ e]; exact h2 i y (hback i y e hy).2 e
   ·subst e
    rw [upd_same]
    intro e
    rcases hnb c e with ⟨o, x, _, hx1, hx2, hx3⟩ | h4
    ·exact h2 o x hx1 hx2 hx3
    ·omega, h3⟩, hunch c h1 fun o x _ hx1 hx2 hx3 => h2 o x hx1 hx2 hx3⟩
 have hlow : ∀ c, nb = some c → base.heap.size ≤ c := fun c e => by
  rcases hnb c e with ⟨o, x, _, hx1, hx2, hx3⟩ | h4
  ·exact h.own o x c hx1 hx2 hx3
  ·have := h.below.size; omega
 refine ⟨⟨hbel, fun i y hy hN => ?_, fun i y c hy hN hc => ?_, fun i y i' y' c hy hN hy' hN' hc hc' => ?_⟩, hr, fun i hi => .inl hi, hG, hs⟩
 ·rcases hN with e | e
  ·rw [hr _ e]
   obtain ⟨h1, h2⟩ := hback i y e hy
   refine (h.rep _ _ h2 e).mono hr (fun i hi => .inl hi) hG hs fun c hc => hunch c (h.lt h2 e hc) fun o x ho hx1 hx2 hx3 => ?_
   exact h1 ((h.inj _ _ _ _ _ h2 e hx1 hx2 hc hx3) ▸ ho.symm)
  ·subst e
   rw [upd_same]
   rw [hat] at hy; cases hy
   refine hx _ _ _ hr (fun i hi => .inl hi) hG fun o c h1 h2 h3 => ⟨h2, fun j y hy hN => ?_, ?_⟩
   ·rcases hN with e | e
    ·rw [hr _ e]; intro e'; exact absurd (h.lt (hback j y e hy).2 e e') (by omega)
    ·subst e; rw [upd_same]; exact h3
   ·have := h.below.size
    cases o <;> simp <;> omega
 ·rcases hN with e | e
  ·rw [hr _ e] at hc; exact h.own _ _ _ (hback i y e hy).2 e hc
  ·subst e; rw [upd_same] at hc; exact hlow c hc
 ·have cross : ∀ i y, N i → blk hp' i = some y → r i = some c → nb = some c → False := fun i y hi hy hrc hnc => by
   obtain ⟨h1, h2⟩ := hback i y hi hy
   rcases hnb c hnc with ⟨o, x, ho, hx1, hx2, hx3⟩ | h4
   ·exact h1 ((h.inj _ _ _ _ _ h2 hi hx1 hx2 hrc hx3) ▸ ho.symm)
   ·exact absurd (h.lt h2 hi hrc) (by omega)
  rcases hN with e | e <;> rcases hN' with e' | e'
  ·rw [hr _ e] at hc
   rw [hr _ e'] at hc'
   exact h.inj _ _ _ _ _ (hback i y e hy).2 e (hback i' y' e' hy').2 e' hc hc'
  ·subst e'
   rw [upd_same] at hc'
   rw [hr _ e] at hc
   exact (cross i y e hy hc hc').elim
  ·subst e
   rw [upd_same] at hc
   rw [hr _ e'] at hc'
   exact (cross i' y' e' hy' hc' hc).elim
  ·rw [e, e']
def rowsOf (hp : List (Nat × Blk)) (x : SV) : Option (Prop × Nat × Nat × (Nat → Nat → SV)) :=
 match x with
 | .arr _ _ n k row => some (True, n, k, row)
 | .vec id n k => match blk hp id with
  | some (.rows _ k' n' row) => some (n ≤ n' ∧ k = k', n, k, row)
  | _ => none
 | .cut id n k => match blk hp id with
  | some (.rows _ k' n' row) => some (n ≤ n' ∧ k = k', n, k, row)
  | _ => none
 | .asl id off n k => match blk hp id with
  | some (.cells _ l) => some (off + n * k ≤ l.length, n, k, fun i j => l.getD (off + (i * k + j)) .top)
  | _ => none
 | .val u => if nilSlice u = true then some (True, 0, 1, fun _ _ => .top) else none
 | _ => none
structure RowsAt (r : Nat → Option Nat) (N : Nat → Prop) (G : Bool → Nat → Prop) (w : World) (u : Value) (n k : Nat) (row : Nat → Nat → SV) (a : Option Addr) (cap : Nat) (f : Nat → Nat → Value) : Prop where
 eq : u = .slice a n cap
 le : n ≤ cap
 at' : n = 0 ∨ ∃ b off, a = some ⟨b, off, none⟩ ∧ ∀ i j, i < n → j < k → w.cell? ⟨b, off + (i * k + j), none⟩ = some (f i j)
 rep : ∀ i j, i < n → j < k → Rep r N G w (row i j) (f i j)
theorem row_lt {i n k j : Nat} (hi : i < n) (hj : j < k) : i * k + j < n * k := by
 have : i * k + k ≤ n * k := by rw [← Nat.succ_mul]; exact Nat.mul_le_mul_right _ hi
 omega
theorem rowsOf_spec (hO : Ok P r N G w hp) {x : SV} {u : Value} (hx : Rep r N G w x u) {obl : Prop} {n k : Nat} {row : Nat → Nat → SV} (hr : rowsOf hp x = some (obl, n, k, row)) (ho : obl) :
  ∃ a cap f, RowsAt r N G w u n k row a cap f := by
 unfold rowsOf at hr
 cases hx with
 | arrNil o full k' row' a cap hf =>
  simp only [Option.some.injEq, Prod.mk.injEq] at hr
  obtain ⟨rfl, rfl, rfl, rfl⟩ := hr
  exact ⟨a, cap, fun _ _ => undef, rfl, Nat.zero_le _, .inl rfl, fun i j hi => by omega⟩
 | arr o full n' k' row' b off cap f hG hf hcap hc h =>
  simp only [Option.some.injEq, Prod.mk.injEq] at hr
  obtain ⟨rfl, rfl, rfl, rfl⟩ := hr
  exact ⟨_, cap, f, rfl, hcap, .inr ⟨b, off, rfl, hc⟩, h⟩
 | val v =>
  simp only at hr
  split at hr
  ·rename_i e
   obtain rfl := nilSlice_eq e
   simp only [Option.some.injEq, Prod.mk.injEq] at hr
   obtain ⟨rfl, rfl, rfl, rfl⟩ := hr
   exact ⟨none, 0, fun _ _ => undef, rfl, Nat.zero_le _, .inl rfl, fun i j hi => by omega⟩
  ·cases hr
 | vecNil id k' hN hrn =>
  simp only at hr
  split at hr
  ·simp only [Option.some.injEq, Prod.mk.injEq] at hr
   obtain ⟨rfl, rfl, rfl, rfl⟩ := hr
   exact ⟨none, 0, fun _ _ => undef, rfl, Nat.zero_le _, .inl rfl, fun i j hi => by omega⟩
  ·cases hr
 | vec id n' k' b cap cs t hN hrn hb hs hcap hm =>
  simp only at hr
  split at hr
  ·rename_i t' k'' n'' row'' hblk
   simp only [Option.some.injEq, Prod.mk.injEq] at hr
   obtain ⟨rfl, rfl, rfl, rfl⟩ := hr
   obtain ⟨h1, rfl⟩ := ho
   have := hO.rep _ _ hblk hN
   rw [hrn] at this
   cases this with
   | rows _ _ _ _ _ cs' hb' hl hrep =>
    refine ⟨_, cap, fun i j => cs'.getD (i * k' + j) undef, rfl, hcap, .inr ⟨b, 0, rfl, fun i j hi hj => ?_⟩, fun i j hi hj => hrep i j (by omega) hj⟩
    rw [Nat.zero_add]
    exact cell_at hb' _ (Nat.lt_of_lt_of_le (row_lt (Nat.lt_of_lt_of_le hi h1) hj) hl)
  ·cases hr
 | cutNil id k' hN hrn =>
  simp only at hr
  split at hr
  ·simp only [Option.some.injEq, Prod.mk.injEq] at hr
   obtain ⟨rfl, rfl, rfl, rfl⟩ := hr
   exact ⟨none, 0, fun _ _ => undef, rfl, Nat.zero_le _, .inl rfl, fun i j hi => by omega⟩
  ·cases hr
 | cut id n' k' b hN hrn =>
  simp only at hr
  split at hr
  ·rename_i t' k'' n'' row'' hblk
   simp only [Option.some.injEq, Prod.mk.injEq] at hr
   obtain ⟨rfl, rfl, rfl, rfl⟩ := hr
   obtain ⟨h1, rfl⟩ := ho
   have := hO.rep _ _ hblk hN
   rw [hrn] at this
   cases this with
   | rows _ _ _ _ _ cs' hb' hl hrep =>
    refine ⟨_, n', fun i j => cs'.getD (i * k' + j) undef, rfl, Nat.le_refl _, .inr ⟨b, 0, rfl, fun i j hi hj => ?_⟩, fun i j hi hj => hrep i j (by omega) hj⟩
    rw [Nat.zero_add]
    exact cell_at hb' _ (Nat.lt_of_lt_of_le (row_lt (Nat.lt_of_lt_of_le hi h1) hj) hl)
  ·cases hr
 | asl id off n' k' b cap hN hrn hcap =>
  simp only at hr
  split at hr
  ·rename_i t' l hblk
   simp only [Option.some.injEq, Prod.mk.injEq] at hr
   obtain ⟨rfl, rfl, rfl, rfl⟩ := hr
   have := hO.rep _ _ hblk hN
   rw [hrn] at this
   cases this with
   | cells _ _ _ cs' hb' hl hrep =>
    refine ⟨_, cap, fun i j => cs'.getD (off + (i * k' + j)) undef, rfl, hcap, .inr ⟨b, off, rfl, fun i j hi hj => ?_⟩, fun i j hi hj => hrep _ _ ?_⟩
    ·exact cell_at hb' _ (by have := row_lt hi hj; omega)
    ·have := row_lt hi hj
     have h2 : off + (i * k' + j) < l.length := by omega
     simp [h2]
  ·cases hr
 | _ => simp only at hr; cases hr
def flat (f : Nat → Nat → Value) (n k : Nat) : List Value := (List.range (n * k)).map fun x => f (x / k) (x % k)
theorem flat_length (f : Nat → Nat → Value) (n k : Nat) : (flat f n k).length = n * k := by simp [flat]
theorem flat_get (f : Nat → Nat → Value) (n k i j : Nat) (hi : i < n) (hj : j < k) : (flat f n k)[i * k + j]? = some (f i j) := by
 have h := row_lt hi hj
 have h1 : (i * k + j) / k = i := by rw [Nat.mul_comm, Nat.mul_add_div (by omega), Nat.div_eq_of_lt hj]; omega
 have h2 : (i * k + j) % k = j := by rw [Nat.mul_comm, Nat.mul_add_mod, Nat.mod_eq_of_lt hj]
 simp [flat, h, h1, h2]
theorem flat_cell {f : Nat → Nat → Value} {n k : Nat} {b off : Nat} (hc : ∀ i j, i < n → j < k → w.cell? ⟨b, off + (i * k + j), none⟩ = some (f i j)) (hk : 0 < k) :
  ∀ x u, (flat f n k)[x]? = some u → w.cell? ((⟨b, off, none⟩ : Addr).add x) = some u := fun x u hx => by
 have hlt : x < n * k := by have := (List.getElem?_eq_some_iff.1 hx).1; rwa [flat_length] at this
 have hi : x / k < n := (Nat.div_lt_iff_lt_mul hk).2 hlt
 have hj : x % k < k := Nat.mod_lt _ hk
 have hx' : x / k * k + x % k = x := by rw [Nat.mul_comm]; exact Nat.div_add_mod x k
 have := hc _ _ hi hj
 rw [addr_add, ← hx', this]
 rw [← hx', flat_get f n k _ _ hi hj] at hx
 exact hx
theorem flat_one {f : Nat → Nat → Value} {row : Nat → Nat → SV} {n k : Nat} (hrep : ∀ i j, i < n → j < k → Rep r N G w (row i j) (f i j)) (h1 : ∀ i j, i < n → j < k → oneCell (row i j) = true) (hk : 0 < k) : ∀ u ∈ flat f n k, u.oneCell' = true := fun u hu => by
 obtain ⟨x, hx, rfl⟩ := List.mem_map.1 hu
 have hlt : x < n * k := by simpa using hx
 have hi : x / k < n := (Nat.div_lt_iff_lt_mul hk).2 hlt
 have hj : x % k < k := Nat.mod_lt _ hk
 exact (hrep _ _ hi hj).one (h1 _ _ hi hj)
end
end Go.Sx
end
section
set_option linter.unusedVariables false
set_option linter.unusedSimpArgs false
namespace Go.Sx
open Go.RowKit
def bytesOf (P : Program) (e : TypeId) : Nat := match P.info? e with | some i => i.bytes | none => 0
def oneRows (m k : Nat) (row : Nat → Nat → SV) : Prop := ∀ i j, i < m → j < k → oneCell (row i j) = true
def rAppend (P : Program) (t : TypeId) (hp : List (Nat × Blk)) (s x : SV) : Res :=
 match tyOf P t with
 | some ⟨_, _, _, .slice e k⟩ => match tyOf P e with
  | some ⟨_, _, some z, _⟩ => match rowsOf hp x with
   | some (obl2, m, k2, row2) => match s with
    | .vec id n k' => match blk hp id with
     | some (.rows t' k'' n' row) => .grow (obl2 ∧ (m = 0 ∨ k2 = k) ∧ k' = k ∧ k'' = k ∧ t' = e ∧ n ≤ n' ∧ 0 < k ∧ z.length = k ∧ oneRows m k row2 ∧ n + m ≤ 1000000 ∧ bytesOf P e ≤ 100000000)
       id (.rows e k (n + m) (fun i j => if i < n then row i j else row2 (i - n) j)) (fun id => .vec id (n + m) k)
     | _ => .bad
    | .val u => match nilSlice u with
     | true => .new (obl2 ∧ (m = 0 ∨ k2 = k) ∧ 0 < k ∧ z.length = k ∧ m ≤ 1000000 ∧ bytesOf P e ≤ 100000000) (.rows e k m row2) (fun id => .vec id m k)
     | false => .bad
    | .cut _ _ _ => match rowsOf hp s with
     | some (obl1, n, k1, row1) => .new (obl1 ∧ obl2 ∧ 0 < m ∧ (n = 0 ∨ k1 = k) ∧ k2 = k ∧ 0 < k ∧ z.length = k ∧ n + m ≤ 1000000 ∧ bytesOf P e ≤ 100000000) (.rows e k (n + m) (fun i j => if i < n then row1 i j else row2 (i - n) j)) (fun id => .vec id (n + m) k)
     | none => .bad
    | .arr _ true _ _ _ => match rowsOf hp s with
     | some (obl1, n, k1, row1) => .new (obl1 ∧ obl2 ∧ 0 < m ∧ (n = 0 ∨ k1 = k) ∧ k2 = k ∧ 0 < k ∧ z.length = k ∧ n + m ≤ 1000000 ∧ bytesOf P e ≤ 100000000) (.rows e k (n + m) (fun i j => if i < n then row1 i j else row2 (i - n) j)) (fun id => .vec id (n + m) k)
     | none => .bad
    | _ => .bad
   | none => .bad
  | _ => .bad
 | _ => .bad
section
variable {P : Program} {base : World} {okc : Nat → Prop} {r : Nat → Option Nat} {N : Nat → Prop} {G : Bool → Nat → Prop} {w : World} {hp : List (Nat × Blk)}
def GoodG (P : Program) (base : World) (okc : Nat → Prop) (r : Nat → Option Nat) (N : Nat → Prop) (hp : List (Nat × Blk)) (w : World) (s : Sem Value) : Res → Prop
 | .grow obl old b mk => obl → ∀ id hp', ¬ N id → blk hp' id = some b → (∀ j, N j → j ≠ old → blk hp' j = blk hp j) → blk hp' old = none →
   ∃ v w' r', s.run P w = .ok v w' ∧ Step base okc r N hp w r' (plus N id) hp' w' ∧ Rep r' (plus N id) (Gd base okc r' (plus N id) hp' w') w' (mk id) v
 | _ => True
def GoodV (P : Program) (base : World) (okc : Nat → Prop) (r : Nat → Option Nat) (N : Nat → Prop) (hp : List (Nat × Blk)) (w : World) (s : Sem Value) : Res → Prop
 | .updv obl id b sv => obl → ∃ v w', s.run P w = .ok v w' ∧ Step base okc r N hp w r N (setBlk hp id b) w' ∧ Rep r N (Gd base okc r N (setBlk hp id b) w') w' sv v
 | _ => True
theorem run_append_zero (t ty e : TypeId) (i : TypeInfo) (ht : P.underlying t = some (.slice e)) (hi : P.info? e = some i) (b a : Option Addr) (n cap c : Nat) (h : n ≤ cap) :
  (Builtin.append_ #[t, t] ty #[.slice b n cap, .slice a 0 c]).run P w = .ok (.slice b n cap) w := by
 cases a <;> cases b <;> simp [Builtin.append_, run_underlying ht, sizeOf, typeInfo, hi, Builtin.lenOf, h, Builtin.firstCells, loadCells, loadCellsFrom, storeCells]
theorem slice_of' {t e : TypeId} {ag : Bool} {sz : Nat} {z : Option (List Value)} {k : Nat} (ht : tyOf P t = some ⟨ag, sz, z, .slice e k⟩) : P.underlying t = some (.slice e) ∧ ∃ i, P.info? e = some i ∧ i.size = k := by
 obtain ⟨i, hu, hi, hs⟩ := slice_of ht rfl
 exact ⟨hu, i, hi, hs⟩
theorem zero_of {e : TypeId} {i : TypeInfo} (hi : P.info? e = some i) {ag : Bool} {sz : Nat} {z : List Value} {d : D} (ht : tyOf P e = some ⟨ag, sz, some z, d⟩) : ∃ zv, i.zero = some zv ∧ zv.cells.toList = z := by
 obtain ⟨i', d', hi', hd', e⟩ := tyOf_some ht
 rw [hi] at hi'; cases hi'
 simp only [TyI.mk.injEq] at e
 obtain ⟨_, _, e, _⟩ := e
 cases hz : i.zero with
 | none => rw [hz] at e; simp at e
 | some zv => rw [hz] at e; simp at e; exact ⟨zv, rfl, e.symm⟩
theorem cap_small {e : TypeId} (w : World) (need old : Nat) (h : need ≤ 1000000) : grownCap w need old e ≤ maxLen := grownCap_le_maxLen w need old e (by simp [maxLen]; omega)
theorem append_cell {olds news : List Value} {f1 f2 : Nat → Nat → Value} {n m k : Nat} (h1 : olds = flat f1 n k) (h2 : news = flat f2 m k) (rest : List Value) {i j : Nat} (hi : i < n + m) (hj : j < k) :
  (olds ++ news ++ rest).toArray.getD (i * k + j) undef = if i < n then f1 i j else f2 (i - n) j := by
 subst h1; subst h2
 simp only [Array.getD_eq_getD_getElem?, List.getElem?_toArray]
 by_cases h : i < n
 ·rw [if_pos h, List.append_assoc, List.getElem?_append_left (by rw [flat_length]; exact row_lt h hj), flat_get _ _ _ _ _ h hj]
  rfl
 ·rw [if_neg h]
  have hle : n * k ≤ i * k := Nat.mul_le_mul_right _ (by omega)
  have hlt := row_lt (show i - n < m by omega) hj
  rw [Nat.sub_mul] at hlt
  rw [List.getElem?_append_left (by simp [flat_length]; omega), List.getElem?_append_right (by rw [flat_length]; omega), flat_length]
  have e : i * k + j - n * k = (i - n) * k + j := by rw [Nat.sub_mul]; omega
  rw [e, flat_get _ _ _ _ _ (by omega) hj]
  rfl
theorem grown_step (h : Sat base okc r N hp w) (id : Nat) (hid : ¬ N id) (old : Option Nat) {hp' : List (Nat × Blk)} {e : TypeId} {k n m gc : Nat} {olds news rest : List Value} {f1 f2 : Nat → Nat → Value} {row1 row2 : Nat → Nat → SV}
  (hat : blk hp' id = some (.rows e k (n + m) (fun i j => if i < n then row1 i j else row2 (i - n) j))) (hoth : ∀ j, N j → some j ≠ old → blk hp' j = blk hp j) (hdrop : ∀ o, old = some o → blk hp' o = none)
  (h1 : olds = flat f1 n k) (h2 : news = flat f2 m k) (hrest : rest.length = (gc - (n + m)) * k) (hgc : n + m ≤ gc) (hgm : gc ≤ maxLen)
  (hr1 : ∀ i j, i < n → j < k → Rep r N (Gd base okc r N hp w) w (row1 i j) (f1 i j)) (hr2 : ∀ i j, i < m → j < k → Rep r N (Gd base okc r N hp w) w (row2 i j) (f2 i j)) :
  ∃ r', Step base okc r N hp w r' (plus N id) hp' (w.drew.alloc (.cells (olds ++ news ++ rest).toArray e)) ∧
   Rep r' (plus N id) (Gd base okc r' (plus N id) hp' (w.drew.alloc (.cells (olds ++ news ++ rest).toArray e))) (w.drew.alloc (.cells (olds ++ news ++ rest).toArray e)) (.vec id (n + m) k) (.slice (some ⟨w.heap.size, 0, none⟩) (n + m) gc) := by
 have hlen : (olds ++ news ++ rest).toArray.size = gc * k := by
  subst h1; subst h2
  simp only [List.size_toArray, List.length_append, flat_length, hrest, ← Nat.add_mul]
  congr 1; omega
 have hbel : Below w.heap.size w (w.drew.alloc (.cells (olds ++ news ++ rest).toArray e)) := ⟨rfl, rfl, rfl, by simp, fun c hc => heap_alloc_old w.drew _ hc⟩
 have hnew : (w.drew.alloc (.cells (olds ++ news ++ rest).toArray e)).heap[w.heap.size]? = some (.cells (olds ++ news ++ rest).toArray e) := heap_alloc_at w.drew _
 have hst := h.exch (w' := w.drew.alloc (.cells (olds ++ news ++ rest).toArray e)) id hid old _ (some w.heap.size) hat hoth hdrop (h.below.trans (hbel.mono h.below.size)) (Shapes.below hbel) hbel.size
  (fun c hc _ => hbel.block c hc) (fun c hc => .inr (by cases hc; exact Nat.le_refl _)) fun r' N' G' hr' hN' hG' _ => by
   refine .rows _ _ _ _ _ _ hnew (by rw [hlen]; exact Nat.mul_le_mul_right _ hgc) fun i j hi hj => ?_
   rw [append_cell h1 h2 rest hi hj]
   by_cases hin : i < n
   ·rw [if_pos hin, if_pos hin]; exact (hr1 i j hin hj).mono hr' hN' hG' (Shapes.below hbel)
   ·rw [if_neg hin, if_neg hin]; exact (hr2 _ j (by omega) hj).mono hr' hN' hG' (Shapes.below hbel)
 exact ⟨_, hst, .vec _ _ _ _ _ _ _ (.inr rfl) (upd_same _ _ _) hnew hlen hgc hgm⟩
theorem zeroCells_toList (z : Array Value) (n : Nat) : (Builtin.zeroCells z n).toList.length = n * z.size := by simp [size_zeroCells]
theorem fits_small {need cap bytes : Nat} (h : cap < need) (h1 : need ≤ 1000000) (h2 : bytes ≤ 100000000) : Builtin.nextslicecap need cap * bytes ≤ 281474976710656 :=
 growslice_fits h (by
  have : need * bytes ≤ 1000000 * 100000000 := Nat.mul_le_mul h1 h2
  omega)
theorem bytes_of {e : TypeId} {i : TypeInfo} (hi : P.info? e = some i) : bytesOf P e = i.bytes := by simp [bytesOf, hi]
theorem append_grow (h : Sat base okc r N hp w) {t ty e : TypeId} {i : TypeInfo} {zv : Value} (ht : P.underlying t = some (.slice e)) (hi : P.info? e = some i) (hz : i.zero = some zv)
  {k n m cap : Nat} (hk : i.size = k) (hzk : zv.cells.toList.length = k) (hpos : 0 < k) (hm : 0 < m) (hfull : cap < n + m) (hsmall : n + m ≤ 1000000) (hby : bytesOf P e ≤ 100000000)
  {s u : Value} {a1 a2 : Option Addr} {c2 : Nat} {f1 f2 : Nat → Nat → Value} {row1 row2 : Nat → Nat → SV} (hs : s = .slice a1 n cap) (h0 : a1 = none → cap = 0)
  (hs1 : RowsAt r N (Gd base okc r N hp w) w s n k row1 a1 cap f1) (hu : RowsAt r N (Gd base okc r N hp w) w u m k row2 a2 c2 f2)
  (id : Nat) (hid : ¬ N id) (old : Option Nat) {hp' : List (Nat × Blk)}
  (hat : blk hp' id = some (.rows e k (n + m) (fun i j => if i < n then row1 i j else row2 (i - n) j))) (hoth : ∀ j, N j → some j ≠ old → blk hp' j = blk hp j) (hdrop : ∀ o, old = some o → blk hp' o = none) :
  ∃ v w' r', (Builtin.append_ #[t, t] ty #[s, u]).run P w = .ok v w' ∧ Step base okc r N hp w r' (plus N id) hp' w' ∧ Rep r' (plus N id) (Gd base okc r' (plus N id) hp' w') w' (.vec id (n + m) k) v := by
 subst hk
 rw [bytes_of hi] at hby
 obtain ⟨rfl, hle2, hat2, hr2⟩ := hu
 rcases hat2 with hz2 | ⟨b2, off2, rfl, hc2⟩
 ·omega
 have hn2 := flat_cell hc2 hpos
 have hzs : zv.cells.size = i.size := by simpa using hzk
 subst hs
 cases a1 with
 | none =>
  have hcap0 := h0 rfl
  have hn0 : n = 0 := by have := hs1.le; omega
  subst hcap0
  subst hn0
  have hr := run_append_nil (P := P) w t ty e i zv ht hi hz ⟨b2, off2, none⟩ m c2 (flat f2 m i.size) (flat_length _ _ _) hn2 hm (by omega) (by
   have : m * i.bytes ≤ 1000000 * 100000000 := Nat.mul_le_mul (by omega) hby
   omega)
  obtain ⟨r', hst, hrep⟩ := grown_step (n := 0) (olds := []) (news := flat f2 m i.size) (rest := (Builtin.zeroCells zv.cells (grownCap w m 0 e - m)).toList) (f1 := f1) (gc := grownCap w m 0 e) h id hid old hat hoth hdrop (by simp [flat]) rfl
   (by rw [zeroCells_toList, hzs]; simp) (by rw [Nat.zero_add]; exact grownCap_ge w m 0 e) (cap_small w m 0 (by omega)) (fun i j hi => by omega) hr2
  have e1 : (([] : List Value) ++ flat f2 m i.size ++ (Builtin.zeroCells zv.cells (grownCap w m 0 e - m)).toList).toArray = (flat f2 m i.size).toArray ++ Builtin.zeroCells zv.cells (grownCap w m 0 e - m) := by
   apply Array.ext'; simp
  rw [e1] at hst hrep
  rw [Nat.zero_add] at hrep ⊢
  exact ⟨_, _, r', hr, hst, hrep⟩
 | some ad =>
  have holds : ∀ j v, (flat f1 n i.size)[j]? = some v → w.cell? (ad.add j) = some v := by
   intro j v hj
   rcases hs1.at' with hz1 | ⟨b1, off1, e1, hc1⟩
   ·subst hz1; simp [flat] at hj
   ·cases e1
    exact flat_cell hc1 hpos j v hj
  have hr := run_append_grow (P := P) w t ty e i zv ht hi hz ad n cap (flat f1 n i.size) (flat_length _ _ _) holds ⟨b2, off2, none⟩ m c2 (flat f2 m i.size) (flat_length _ _ _) hn2 hfull (by omega) (fits_small hfull hsmall hby)
  obtain ⟨r', hst, hrep⟩ := grown_step (olds := flat f1 n i.size) (news := flat f2 m i.size) (rest := (Builtin.zeroCells zv.cells (grownCap w (n + m) cap e - (n + m))).toList) (gc := grownCap w (n + m) cap e) h id hid old hat hoth hdrop rfl rfl
   (by rw [zeroCells_toList, hzs]) (grownCap_ge w _ _ e) (cap_small w _ _ hsmall) hs1.rep hr2
  have e1 : (flat f1 n i.size ++ flat f2 m i.size ++ (Builtin.zeroCells zv.cells (grownCap w (n + m) cap e - (n + m))).toList).toArray = (flat f1 n i.size).toArray ++ (flat f2 m i.size).toArray ++ Builtin.zeroCells zv.cells (grownCap w (n + m) cap e - (n + m)) := by
   apply Array.ext'; simp
  rw [e1] at hst hrep
  exact ⟨_, _, r', hr, hst, hrep⟩
theorem rep_nil {v : Value} {u : Value} (h : nilSlice u = true) (hv : Rep r N G w (.val u) v) : v = .slice none 0 0 := by
 cases hv; exact nilSlice_eq h
theorem run_append_full (h : Sat base okc r N hp w) {t ty e : TypeId} {i : TypeInfo} {zv : Value} (ht : P.underlying t = some (.slice e)) (hi : P.info? e = some i) (hz : i.zero = some zv)
  {k : Nat} (hk : i.size = k) {s x : SV} {v u : Value} (hs : Rep r N (Gd base okc r N hp w) w s v) (hx : Rep r N (Gd base okc r N hp w) w x u)
  (hfull : ∀ a n cap, v = .slice a n cap → n = cap)
  {obl1 obl2 : Prop} {n m k1 k2 : Nat} {row1 row2 : Nat → Nat → SV} (hr1 : rowsOf hp s = some (obl1, n, k1, row1)) (hr2 : rowsOf hp x = some (obl2, m, k2, row2)) :
  GoodN P base okc r N hp w (Builtin.append_ #[t, t] ty #[v, u]) (.new (obl1 ∧ obl2 ∧ 0 < m ∧ (n = 0 ∨ k1 = k) ∧ k2 = k ∧ 0 < k ∧ zv.cells.toList.length = k ∧ n + m ≤ 1000000 ∧ bytesOf P e ≤ 100000000) (.rows e k (n + m) (fun i j => if i < n then row1 i j else row2 (i - n) j)) (fun id => .vec id (n + m) k)) := by
 rintro ⟨h1, h2, h3, h4, rfl, h6, h7, h8, h9⟩ id hp' hid hat hoth
 obtain ⟨a1, c1, f1, hs1⟩ := rowsOf_spec (P := P) h.ok hs hr1 h1
 obtain ⟨a2, c2, f2, hu⟩ := rowsOf_spec (P := P) h.ok hx hr2 h2
 have hnc := hfull _ _ _ hs1.eq
 have hs1' : RowsAt r N (Gd base okc r N hp w) w v n k2 row1 a1 c1 f1 := by
  rcases h4 with h4 | h4
  ·subst h4; exact ⟨hs1.eq, hs1.le, .inl rfl, fun i j hi => by omega⟩
  ·subst h4; exact hs1
 refine append_grow h ht hi hz hk h7 h6 h3 (by omega) h8 h9 hs1.eq (fun e => ?_) hs1' hu id hid none hat (fun j hj _ => hoth j hj) (fun o ho => by cases ho)
 rcases hs1.at' with h5 | ⟨b, off, e', _⟩
 ·omega
 ·rw [e] at e'; cases e'
theorem new_none (h : Sat base okc r N hp w) (id : Nat) (hid : ¬ N id) (old : Option Nat) {hp' : List (Nat × Blk)} {e : TypeId} {k : Nat} {row : Nat → Nat → SV}
  (hat : blk hp' id = some (.rows e k 0 row)) (hoth : ∀ j, N j → some j ≠ old → blk hp' j = blk hp j) (hdrop : ∀ o, old = some o → blk hp' o = none) :
  ∃ r', Step base okc r N hp w r' (plus N id) hp' w ∧ Rep r' (plus N id) (Gd base okc r' (plus N id) hp' w) w (.vec id 0 k) (.slice none 0 0) :=
 ⟨_, h.exch id hid old _ none hat hoth hdrop h.below (Shapes.refl w) (Nat.le_refl _) (fun _ _ _ => rfl) (fun c hc => by cases hc) fun r' N' G' _ _ _ _ => .none e k row, .vecNil _ _ (.inr rfl) (upd_same _ _ _)⟩
theorem run_append (h : Sat base okc r N hp w) (t ty : TypeId) {s x : SV} {v u : Value} (hs : Rep r N (Gd base okc r N hp w) w s v) (hx : Rep r N (Gd base okc r N hp w) w x u) :
  GoodN P base okc r N hp w (Builtin.append_ #[t, t] ty #[v, u]) (rAppend P t hp s x) ∧ GoodG P base okc r N hp w (Builtin.append_ #[t, t] ty #[v, u]) (rAppend P t hp s x) := by
 unfold rAppend
 split
 rotate_left
 ·exact ⟨trivial, trivial⟩
 rename_i ag sz z0 e k ht
 obtain ⟨hte, i, hi, hk⟩ := slice_of' ht
 split
 rotate_left
 ·exact ⟨trivial, trivial⟩
 rename_i ag' sz' z d hte'
 obtain ⟨zv, hz, rfl⟩ := zero_of hi hte'
 split
 rotate_left
 ·exact ⟨trivial, trivial⟩
 rename_i obl2 m k2 row2 hr2
 split
 ·rename_i id n k'
  split
  rotate_left
  ·exact ⟨trivial, trivial⟩
  rename_i t' k'' n' row hblk
  refine ⟨trivial, ?_⟩
  rintro ⟨h1, h2, rfl, rfl, rfl, h6, h7, h8, h9, h10, h11⟩ nid hp' hid hat hoth hdrop
  obtain ⟨a2, c2, f2, hu⟩ := rowsOf_spec (P := P) h.ok hx hr2 h1
  have hr1 : rowsOf hp (.vec id n k'') = some (n ≤ n' ∧ k'' = k'', n, k'', row) := by simp [rowsOf, hblk]
  obtain ⟨a1, c1, f1, hs1⟩ := rowsOf_spec (P := P) h.ok hs hr1 ⟨h6, rfl⟩
  have hoth' : ∀ j, N j → some j ≠ some id → blk hp' j = blk hp j := fun j hj hne => hoth j hj fun e => hne (by rw [e])
  have hdrop' : ∀ o, some id = some o → blk hp' o = none := fun o ho => by cases ho; exact hdrop
  cases hs with
  | vecNil _ _ hN hrn =>
   by_cases hm0 : m = 0
   ·subst hm0
    have hrun := run_append_zero (w := w) t ty t' i hte hi none a2 0 0 c2 (Nat.le_refl _)
    obtain ⟨r', hst, hrep⟩ := new_none h nid hid (some id) hat hoth' hdrop'
    rw [hu.eq]
    exact ⟨_, _, r', hrun, hst, hrep⟩
   ·rcases h2 with h2 | rfl
    ·exact absurd h2 hm0
    ·exact append_grow h hte hi hz hk h8 h7 (by omega) (by omega) h10 h11 rfl (fun _ => rfl) (by have := hs1.eq; cases this; exact hs1) hu nid hid (some id) hat hoth' hdrop'
  | vec _ _ _ b cap cs tt hN hrn hb hcs hcap hmx =>
   have hrep := h.rep _ _ hblk hN
   rw [hrn] at hrep
   cases hrep with
   | rows _ _ _ _ _ cs' hb' hl hrep =>
    rw [hb] at hb'
    simp only [Option.some.injEq, Obj.cells.injEq, and_true] at hb'
    obtain ⟨rfl, rfl⟩ := hb'
    by_cases hm0 : m = 0
    ·subst hm0
     have hrun := run_append_zero (w := w) t ty tt i hte hi (some ⟨b, 0, none⟩) a2 n cap c2 hcap
     have hst := h.exch (w' := w) nid hid (some id) _ (some b) hat hoth' hdrop' h.below (Shapes.refl w) (Nat.le_refl _) (fun _ _ _ => rfl) (fun c hc => .inl ⟨id, _, rfl, hblk, hN, by rw [hrn]; exact hc⟩) fun r' N' G' hr' hN' hG' _ =>
      .rows _ _ _ _ b cs hb (Nat.le_trans (Nat.mul_le_mul_right _ (by omega)) hl) fun i j hi hj => by
       rw [if_pos (by omega)]
       exact (hrep i j (by omega) hj).mono hr' hN' hG' (Shapes.refl w)
     rw [hu.eq]
     exact ⟨_, _, _, hrun, hst, .vec _ _ _ b cap cs tt (.inr rfl) (upd_same _ _ _) hb hcs hcap hmx⟩
    ·have hk2 : k2 = k'' := by rcases h2 with h2 | h2; exact absurd h2 hm0; exact h2
     subst hk2
     by_cases hroom : n + m ≤ cap
     ·obtain ⟨rfl, hle2, hat2, hrp2⟩ := hu
      rcases hat2 with hz2 | ⟨b2, off2, rfl, hc2⟩
      ·exact absurd hz2 hm0
      have hfit : n * i.size + (flat f2 m k2).length ≤ cs.size := by rw [flat_length, hk, hcs, ← Nat.add_mul]; exact Nat.mul_le_mul_right _ hroom
      have hrun := run_append_room (P := P) w t ty tt i hte hi b n cap cs hb ⟨b2, off2, none⟩ m c2 (flat f2 m k2) (by rw [flat_length, hk]) (flat_cell hc2 h7) (flat_one hrp2 h9 h7) hroom hfit
      have hsz : (cs.toList.take (n * i.size) ++ flat f2 m k2 ++ cs.toList.drop (n * i.size + (flat f2 m k2).length)).toArray.size = cs.size := by
       simp only [List.size_toArray, List.length_append, List.length_take, List.length_drop, Array.length_toList]
       omega
      have hsh := setRow_shapes (w := w) hb hsz
      have hb2 := setRow_heap w b cs (cs.toList.take (n * i.size) ++ flat f2 m k2 ++ cs.toList.drop (n * i.size + (flat f2 m k2).length)).toArray tt _ hb
      have hst := h.exch (w' := w.setRow b (cs.toList.take (n * i.size) ++ flat f2 m k2 ++ cs.toList.drop (n * i.size + (flat f2 m k2).length)).toArray) nid hid (some id) _ (some b) hat hoth' hdrop'
       (setRow_below h.below (h.own _ _ _ hblk hN hrn) _) hsh (by rw [setRow_size]; exact Nat.le_refl _) (fun c hc hno => setRow_other w b _ fun e => hno id _ rfl hblk hN (by rw [e]; exact hrn))
       (fun c hc => .inl ⟨id, _, rfl, hblk, hN, by rw [hrn]; exact hc⟩) fun r' N' G' hr' hN' hG' _ => by
        refine .rows _ _ _ _ b _ hb2 (by rw [hsz, hcs]; exact Nat.mul_le_mul_right _ hroom) fun x j hx hj => ?_
        have hcell : ((cs.toList.take (n * i.size) ++ flat f2 m k2 ++ cs.toList.drop (n * i.size + (flat f2 m k2).length)).toArray).getD (x * k2 + j) undef = if x < n then cs.getD (x * k2 + j) undef else f2 (x - n) j := by
         have hnl : n * k2 ≤ cs.size := by rw [hcs]; exact Nat.mul_le_mul_right _ hcap
         simp only [Array.getD_eq_getD_getElem?, List.getElem?_toArray, hk]
         by_cases hxn : x < n
         ·have := row_lt hxn hj
          rw [if_pos hxn, List.append_assoc, List.getElem?_append_left (by simp; omega), List.getElem?_take_of_lt this]
          simp
         ·have hle : n * k2 ≤ x * k2 := Nat.mul_le_mul_right _ (by omega)
          have hlt := row_lt (show x - n < m by omega) hj
          rw [Nat.sub_mul] at hlt
          have hmin : min (n * k2) cs.toList.length = n * k2 := by simp; omega
          rw [if_neg hxn, List.getElem?_append_left (by rw [List.length_append, List.length_take, flat_length, hmin]; omega), List.getElem?_append_right (by rw [List.length_take, hmin]; omega), List.length_take, hmin]
          have e : x * k2 + j - n * k2 = (x - n) * k2 + j := by rw [Nat.sub_mul]; omega
          rw [e, flat_get _ _ _ _ _ (by omega) hj]
          rfl
        rw [hcell]
        by_cases hxn : x < n
        ·rw [if_pos hxn, if_pos hxn]; exact (hrep x j (by omega) hj).mono hr' hN' hG' hsh
        ·rw [if_neg hxn, if_neg hxn]; exact (hrp2 _ j (by omega) hj).mono hr' hN' hG' hsh
      exact ⟨_, _, _, hrun, hst, .vec _ _ _ b cap _ tt (.inr rfl) (upd_same _ _ _) hb2 (hsz.trans hcs) hroom hmx⟩
     ·exact append_grow h hte hi hz hk h8 h7 (by omega) (by omega) h10 h11 rfl (fun e => by cases e) (by have := hs1.eq; cases this; exact hs1) hu nid hid (some id) hat hoth' hdrop'
 ·rename_i uu
  split
  rotate_left
  ·exact ⟨trivial, trivial⟩
  rename_i hnil
  refine ⟨?_, trivial⟩
  rintro ⟨h1, h2, h7, h8, h10, h11⟩ nid hp' hid hat hoth
  obtain ⟨a2, c2, f2, hu⟩ := rowsOf_spec (P := P) h.ok hx hr2 h1
  obtain rfl := rep_nil hnil hs
  have hoth' : ∀ j, N j → some j ≠ none → blk hp' j = blk hp j := fun j hj hne => hoth j hj
  have hdrop' : ∀ o, none = some o → blk hp' o = none := fun o ho => by cases ho
  by_cases hm0 : m = 0
  ·subst hm0
   have hrun := run_append_zero (w := w) t ty e i hte hi none a2 0 0 c2 (Nat.le_refl _)
   obtain ⟨r', hst, hrep⟩ := new_none h nid hid none hat hoth' hdrop'
   rw [hu.eq]
   exact ⟨_, _, r', hrun, hst, hrep⟩
  ·rcases h2 with h2 | rfl
   ·exact absurd h2 hm0
   ·have := append_grow (ty := ty) (a1 := none) (s := .slice none 0 0) (row1 := fun _ _ => .top) (f1 := fun _ _ => undef) (n := 0) h hte hi hz hk h8 h7 (by omega) (by omega) (by omega) h11 rfl (fun _ => rfl) ⟨rfl, Nat.zero_le _, .inl rfl, fun i j hi => by omega⟩ hu nid hid none (by
     rw [hat]
     simp) hoth' hdrop'
    simpa using this
 ·split
  rotate_left
  ·exact ⟨trivial, trivial⟩
  rename_i id n k' obl1 n1 k1 row1 hr1
  refine ⟨run_append_full h hte hi hz hk hs hx (fun a n cap e => ?_) hr1 hr2, trivial⟩
  cases hs <;> simp only [Value.slice.injEq] at e <;> omega
 ·split
  rotate_left
  ·exact ⟨trivial, trivial⟩
  rename_i o n k' row' obl1 n1 k1 row1 hr1
  refine ⟨run_append_full h hte hi hz hk hs hx (fun a n cap e => ?_) hr1 hr2, trivial⟩
  cases hs with
  | arrNil _ _ _ _ a' cap' hf => simp only [Value.slice.injEq] at e; have := hf rfl; omega
  | arr _ _ _ _ _ b off cap' f hG hf hcap hc hrep => simp only [Value.slice.injEq] at e; have := hf rfl; omega
 ·exact ⟨trivial, trivial⟩
end
end Go.Sx
end
section
set_option linter.unusedVariables false
set_option linter.unusedSimpArgs false
namespace Go.Sx
open Go.RowKit
def bnd (d : Int) : Option SV → Option Int
 | none => some d
 | some (.val (.int _ i)) => some i
 | _ => none
def rSlice (ti : Option TyI) (x : SV) (lo hi mx : Option SV) : Res :=
 match ti with
 | some ⟨_, _, _, .slice e k⟩ =>
  match x with
  | .arr o full n k' row => match bnd 0 lo, bnd n hi, mx with
   | some l, some h, none => .pure (0 ≤ l ∧ l ≤ h ∧ h ≤ n ∧ k' = k) (.arr o (full && hi.isNone) (h - l).toNat k (fun i j => row (l.toNat + i) j))
   | some l, some h, some (.val (.int _ m)) => .pure (0 ≤ l ∧ l ≤ h ∧ h ≤ n ∧ h = m ∧ hi.isSome = true ∧ k' = k) (.arr o true (h - l).toNat k (fun i j => row (l.toNat + i) j))
   | _, _, _ => .bad
  | .vec id n k' => match bnd 0 lo, bnd n hi, mx with
   | some l, some h, none => .pure (l = 0 ∧ 0 ≤ h ∧ h ≤ n ∧ k' = k) (.vec id h.toNat k)
   | some l, some h, some (.val (.int _ m)) => .pure (l = 0 ∧ 0 ≤ h ∧ h ≤ n ∧ h = m ∧ hi.isSome = true ∧ k' = k) (.cut id h.toNat k)
   | _, _, _ => .bad
  | .val u => match bnd 0 lo, bnd 0 hi, mx with
   | some l, some h, none => .pure (nilSlice u = true ∧ l = 0 ∧ h = 0) (.val (.slice none 0 0))
   | some l, some h, some (.val (.int _ m)) => .pure (nilSlice u = true ∧ l = 0 ∧ h = 0 ∧ m = 0 ∧ hi.isSome = true) (.val (.slice none 0 0))
   | _, _, _ => .bad
  | .que id off n k' => match bnd 0 lo, bnd n hi, mx with
   | some l, some h, none => .pure (0 ≤ l ∧ l ≤ h ∧ h = n ∧ k' = k) (.que id (off + l.toNat) (h - l).toNat k)
   | _, _, _ => .bad
  | .asl id off n k' => match bnd 0 lo, bnd n hi, mx with
   | some l, some h, none => .pure (0 ≤ l ∧ (l = 0 ∨ l < h) ∧ l ≤ h ∧ h ≤ n ∧ k' = k) (.asl id (off + l.toNat * k) (h - l).toNat k)
   | _, _, _ => .bad
  | _ => .bad
 | some ⟨_, _, _, .array n e k⟩ =>
  match mx with
  | some _ => .bad
  | none => match x with
   | .ptr id off => match bnd 0 lo, bnd n hi with
    | some l, some h => .pure (0 ≤ l ∧ (l = 0 ∨ l < h) ∧ l ≤ h ∧ h ≤ n) (.asl id (off + l.toNat * k) (h - l).toNat k)
    | _, _ => .bad
   | .ref o m row => match bnd 0 lo, bnd n hi with
    | some l, some h => .pure (0 ≤ l ∧ l ≤ h ∧ h ≤ n ∧ n * k ≤ m) (.arr o hi.isNone (h - l).toNat k (fun i j => row ((l.toNat + i) * k + j)))
    | _, _ => .bad
   | _ => .bad
 | _ => .bad
section
variable {P : Program} {r : Nat → Option Nat} {N : Nat → Prop} {G : Bool → Nat → Prop} {w : World} {hp : List (Nat × Blk)}
def RepO (r : Nat → Option Nat) (N : Nat → Prop) (G : Bool → Nat → Prop) (w : World) : Option SV → Option Value → Prop
 | none, none => True
 | some s, some v => Rep r N G w s v
 | _, _ => False
theorem bnd_spec {d l : Int} {s : Option SV} {v : Option Value} (h : bnd d s = some l) (hr : RepO r N G w s v) : (s = none ∧ v = none ∧ l = d) ∨ (s.isNone = false ∧ ∃ k, v = some (.int k l)) := by
 cases s with
 | none => cases v with
  | none => simp only [bnd, Option.some.injEq] at h; exact .inl ⟨rfl, rfl, h.symm⟩
  | some v => exact hr.elim
 | some s =>
  cases v with
  | none => exact hr.elim
  | some v =>
   unfold bnd at h
   split at h
   ·rename_i e; cases e
   ·rename_i k i e
    simp only [Option.some.injEq] at e h
    subst e; subst h
    cases hr
    exact .inr ⟨rfl, k, rfl⟩
   ·cases h
theorem run_bounds (isSlice : Bool) (len cap l h m : Nat) {lo hi mx : Option Value} (hlo : (lo = none ∧ l = 0) ∨ ∃ k, lo = some (.int k l)) (hhi : (hi = none ∧ mx = none ∧ h = len) ∨ ∃ k, hi = some (.int k h)) (hmx : (mx = none ∧ m = cap) ∨ ∃ k, mx = some (.int k m)) (h1 : l ≤ h) (h2 : h ≤ m) (h3 : m ≤ cap) :
  (Instr.sliceBounds isSlice len cap lo hi mx).run P w = .ok (l, h, m) w := by
 have e0 : ∀ n : Nat, (0 : Int) ≤ n := fun n => by omega
 rcases hlo with ⟨rfl, rfl⟩ | ⟨kl, rfl⟩ <;> rcases hhi with ⟨rfl, rfl, rfl⟩ | ⟨kh, rfl⟩ <;> rcases hmx with ⟨e, rfl⟩ | ⟨km, e⟩ <;> (try cases e) <;>
  simp [Instr.sliceBounds, run_sliceBound, h1, h2, h3, e0]
theorem run_sliced {t e : TypeId} {i : TypeInfo} (hu : P.underlying t = some (.slice e)) (hi : P.info? e = some i) {a : Option Addr} {len cap l h m : Nat} {lo hi' mx : Option Value} (hb : (Instr.sliceBounds true len cap lo hi' mx).run P w = .ok (l, h, m) w) :
  (Instr.sliceAt t (.slice a len cap) lo hi' mx).run P w = .ok (.slice (if m = l then a else a.map (·.add (l * i.size))) (h - l) (m - l)) w := by
 simp [Instr.sliceAt, run_underlying hu, Instr.slice, hb, sizeOf, typeInfo, hi]
theorem run_sliced_array {t e : TypeId} {i : TypeInfo} {n : Nat} (hu : P.underlying t = some (.array n e)) (hi : P.info? e = some i) {a : Addr} {l h m : Nat} {lo hi' mx : Option Value} (hb : (Instr.sliceBounds false n n lo hi' mx).run P w = .ok (l, h, m) w) :
  (Instr.sliceAt t (.pointer (some a)) lo hi' mx).run P w = .ok (.slice (some (if m = l then a else a.add (l * i.size))) (h - l) (m - l)) w := by
 simp [Instr.sliceAt, Instr.sureAddr, run_underlying hu, hb, sizeOf, typeInfo, hi]
theorem toNat_le {a b : Int} (h : a ≤ b) : a.toNat ≤ b.toNat := by omega
theorem lo_ok {l : Int} {s : Option SV} {v : Option Value} (h : bnd 0 s = some l) (hr : RepO r N G w s v) (h0 : 0 ≤ l) : (v = none ∧ l.toNat = 0) ∨ ∃ k, v = some (.int k (l.toNat : Nat)) := by
 rcases bnd_spec h hr with ⟨_, rfl, rfl⟩ | ⟨_, k, rfl⟩
 ·exact .inl ⟨rfl, rfl⟩
 ·exact .inr ⟨k, by rw [Int.toNat_of_nonneg h0]⟩
theorem hi_ok {n : Nat} {l : Int} {s : Option SV} {v mx : Option Value} (h : bnd n s = some l) (hr : RepO r N G w s v) (h0 : 0 ≤ l) (hm : s.isNone = true → mx = none) : (v = none ∧ mx = none ∧ l.toNat = n) ∨ ∃ k, v = some (.int k (l.toNat : Nat)) := by
 rcases bnd_spec h hr with ⟨rfl, rfl, rfl⟩ | ⟨_, k, rfl⟩
 ·exact .inl ⟨rfl, hm rfl, by simp⟩
 ·exact .inr ⟨k, by rw [Int.toNat_of_nonneg h0]⟩
theorem repO_none {v : Option Value} (h : RepO r N G w none v) : v = none := by cases v with | none => rfl | some v => exact h.elim
theorem repO_int {k : IntKind} {m : Int} {v : Option Value} (h : RepO r N G w (some (.val (.int k m))) v) : v = some (.int k m) := by
 cases v with
 | none => exact h.elim
 | some v => cases h; rfl
theorem array_of' {t e : TypeId} {ag : Bool} {sz : Nat} {z : Option (List Value)} {k n : Nat} (ht : tyOf P t = some ⟨ag, sz, z, .array n e k⟩) : P.underlying t = some (.array n e) ∧ ∃ i, P.info? e = some i ∧ i.size = k := by
 obtain ⟨i, hu, hi, hs⟩ := array_of ht rfl
 exact ⟨hu, i, hi, hs⟩
theorem arr_piece {o full full' : Bool} {n k : Nat} {row : Nat → Nat → SV} {a : Option Addr} {cap l h m : Nat} (hv : Rep r N G w (.arr o full n k row) (.slice a n cap)) (h1 : l ≤ h) (h2 : h ≤ n) (h3 : h ≤ m) (hf : full' = true → m = h) :
  Rep r N G w (.arr o full' (h - l) k (fun i j => row (l + i) j)) (.slice (if m = l then a else a.map (·.add (l * k))) (h - l) (m - l)) := by
 by_cases e : h - l = 0
 ·rw [e]
  exact .arrNil _ _ _ _ _ _ fun hh => by have := hf hh; omega
 ·rw [if_neg (by omega)]
  cases hv with
  | arrNil => omega
  | arr _ _ _ _ _ b off _ f hG hff hcap hc hr =>
   simp only [Option.map_some, addr_add]
   refine .arr _ _ _ _ _ b (off + l * k) _ (fun i j => f (l + i) j) hG (fun hh => by have := hf hh; omega) (by omega) (fun i j hi hj => ?_) fun i j hi hj => hr _ _ (by omega) hj
   have := hc (l + i) j (by omega) hj
   rw [Nat.add_mul] at this
   rw [← this]
   congr 2
   omega
theorem run_slice (t : TypeId) {x : SV} {lo hi mx : Option SV} {u : Value} {vlo vhi vmx : Option Value} (hx : Rep r N G w x u) (hlo : RepO r N G w lo vlo) (hhi : RepO r N G w hi vhi) (hmx : RepO r N G w mx vmx) :
  Good P r N G w (Instr.sliceAt t u vlo vhi vmx) (rSlice (tyOf P t) x lo hi mx) := by
 unfold rSlice
 split
 ·rename_i ag sz z e k ht
  obtain ⟨hu, i, hi', rfl⟩ := slice_of' ht
  split
  ·rename_i o full n k' row
   split
   ·rename_i l h hl hh
    rintro ⟨h0, h1, h2, rfl⟩
    obtain rfl := repO_none hmx
    have hb : ∀ a cap, u = .slice a n cap → n ≤ cap → ∃ v, (Instr.sliceAt t u vlo vhi none).run P w = .ok v w ∧ Rep r N G w (.arr o (full && hi.isNone) (h - l).toNat i.size (fun i j => row (l.toNat + i) j)) v := by
     rintro a cap rfl hcap
     refine ⟨_, run_sliced hu hi' (run_bounds true n cap l.toNat h.toNat cap (lo_ok hl hlo h0) (hi_ok hh hhi (by omega) fun _ => rfl) (.inl ⟨rfl, rfl⟩) (toNat_le h1) (by omega) (Nat.le_refl _)), ?_⟩
     rw [show (h - l).toNat = h.toNat - l.toNat by omega]
     refine arr_piece hx (toNat_le h1) (by omega) (by omega) fun hf => ?_
     simp only [Bool.and_eq_true] at hf
     have hn : h = n := by rcases bnd_spec hh hhi with ⟨_, _, e⟩ | ⟨e, _⟩; exact e; (rw [e] at hf; simp at hf)
     have hcapn : cap = n := by
      cases hx with
      | arrNil _ _ _ _ _ _ hff => exact hff hf.1
      | arr _ _ _ _ _ _ _ _ _ _ hff => exact hff hf.1
     omega
    cases hx with
    | arrNil _ _ _ _ a cap hf => exact hb _ _ rfl (Nat.zero_le _)
    | arr _ _ _ _ _ b off cap f hG hf hcap hc hr => exact hb _ _ rfl hcap
   ·rename_i l h kk m hl hh
    rintro ⟨h0, h1, h2, rfl, h5, rfl⟩
    obtain rfl := repO_int hmx
    have hb : ∀ a cap, u = .slice a n cap → n ≤ cap → ∃ v, (Instr.sliceAt t u vlo vhi (some (.int kk h))).run P w = .ok v w ∧ Rep r N G w (.arr o true (h - l).toNat i.size (fun i j => row (l.toNat + i) j)) v := by
     rintro a cap rfl hcap
     refine ⟨_, run_sliced hu hi' (run_bounds true n cap l.toNat h.toNat h.toNat (lo_ok hl hlo h0) (hi_ok hh hhi (by omega) fun e => ?_) (.inr ⟨kk, by rw [Int.toNat_of_nonneg (by omega)]⟩) (toNat_le h1) (Nat.le_refl _) (by omega)), ?_⟩
     ·cases hi <;> simp at h5 e
     rw [show (h - l).toNat = h.toNat - l.toNat by omega]
     exact arr_piece hx (toNat_le h1) (by omega) (Nat.le_refl _) fun hf => rfl
    cases hx with
    | arrNil _ _ _ _ a cap hf => exact hb _ _ rfl (Nat.zero_le _)
    | arr _ _ _ _ _ b off cap f hG hf hcap hc hr => exact hb _ _ rfl hcap
   ·trivial
  ·rename_i id n k'
   split
   ·rename_i l h hl hh
    rintro ⟨rfl, h1, h2, rfl⟩
    obtain rfl := repO_none hmx
    cases hx with
    | vecNil _ _ hN hr =>
     refine ⟨_, run_sliced hu hi' (run_bounds true 0 0 (0 : Int).toNat h.toNat 0 (lo_ok hl hlo (Int.le_refl _)) (hi_ok hh hhi h1 fun _ => rfl) (.inl ⟨rfl, rfl⟩) (Nat.zero_le _) (by omega) (Nat.le_refl _)), ?_⟩
     have : h.toNat = 0 := by omega
     rw [this]
     exact .vecNil _ _ hN hr
    | vec _ _ _ b cap cs tt hN hr hb hs hcap hm =>
     refine ⟨_, run_sliced hu hi' (run_bounds true n cap (0 : Int).toNat h.toNat cap (lo_ok hl hlo (Int.le_refl _)) (hi_ok hh hhi h1 fun _ => rfl) (.inl ⟨rfl, rfl⟩) (Nat.zero_le _) (by omega) (Nat.le_refl _)), ?_⟩
     have e : (if cap = (0 : Int).toNat then some (⟨b, 0, none⟩ : Addr) else (some (⟨b, 0, none⟩ : Addr)).map (·.add ((0 : Int).toNat * i.size))) = some ⟨b, 0, none⟩ := by split <;> simp [addr_add]
     rw [e]
     exact .vec _ _ _ b cap cs tt hN hr hb hs (by simp; omega) hm
   ·rename_i l h kk m hl hh
    rintro ⟨rfl, h1, h2, rfl, h5, rfl⟩
    obtain rfl := repO_int hmx
    have hnn : hi.isNone = true → some (Value.int kk h) = none := fun e => by cases hi <;> simp at h5 e
    cases hx with
    | vecNil _ _ hN hr =>
     refine ⟨_, run_sliced hu hi' (run_bounds true 0 0 (0 : Int).toNat h.toNat h.toNat (lo_ok hl hlo (Int.le_refl _)) (hi_ok hh hhi h1 hnn) (.inr ⟨kk, by rw [Int.toNat_of_nonneg h1]⟩) (Nat.zero_le _) (Nat.le_refl _) (by omega)), ?_⟩
     have : h.toNat = 0 := by omega
     rw [this]
     exact .cutNil _ _ hN hr
    | vec _ _ _ b cap cs tt hN hr hb hs hcap hm =>
     refine ⟨_, run_sliced hu hi' (run_bounds true n cap (0 : Int).toNat h.toNat h.toNat (lo_ok hl hlo (Int.le_refl _)) (hi_ok hh hhi h1 hnn) (.inr ⟨kk, by rw [Int.toNat_of_nonneg h1]⟩) (Nat.zero_le _) (Nat.le_refl _) (by omega)), ?_⟩
     have e : (if h.toNat = (0 : Int).toNat then some (⟨b, 0, none⟩ : Addr) else (some (⟨b, 0, none⟩ : Addr)).map (·.add ((0 : Int).toNat * i.size))) = some ⟨b, 0, none⟩ := by split <;> simp [addr_add]
     rw [e]
     exact .cut _ _ _ b hN hr
   ·trivial
  ·rename_i uu
   split
   ·rename_i l h hl hh
    rintro ⟨hnil, rfl, rfl⟩
    obtain rfl := rep_nil hnil hx
    obtain rfl := repO_none hmx
    exact ⟨_, run_sliced hu hi' (run_bounds true 0 0 (0 : Int).toNat (0 : Int).toNat 0 (lo_ok hl hlo (Int.le_refl _)) (hi_ok hh hhi (Int.le_refl _) fun _ => rfl) (.inl ⟨rfl, rfl⟩) (Nat.le_refl _) (Nat.le_refl _) (Nat.le_refl _)), .val _⟩
   ·rename_i l h kk m hl hh
    rintro ⟨hnil, rfl, rfl, rfl, h5⟩
    obtain rfl := rep_nil hnil hx
    obtain rfl := repO_int hmx
    have hnn : hi.isNone = true → some (Value.int kk 0) = none := fun e => by cases hi <;> simp at h5 e
    exact ⟨_, run_sliced hu hi' (run_bounds true 0 0 (0 : Int).toNat (0 : Int).toNat 0 (lo_ok hl hlo (Int.le_refl _)) (hi_ok hh hhi (Int.le_refl _) hnn) (.inr ⟨kk, rfl⟩) (Nat.le_refl _) (Nat.le_refl _) (Nat.le_refl _)), .val _⟩
   ·trivial
  ·rename_i id off n k'
   split
   ·rename_i l h hl hh
    rintro ⟨h0, h1, h2, rfl⟩
    obtain rfl := repO_none hmx
    cases hx with
    | queNil _ _ _ a hN =>
     refine ⟨_, run_sliced hu hi' (run_bounds true 0 0 l.toNat h.toNat 0 (lo_ok hl hlo h0) (hi_ok hh hhi (by omega) fun _ => rfl) (.inl ⟨rfl, rfl⟩) (toNat_le h1) (by omega) (Nat.le_refl _)), ?_⟩
     rw [show h.toNat - l.toNat = 0 by omega, show (h - l).toNat = 0 by omega, show 0 - l.toNat = 0 by omega]
     exact .queNil _ _ _ _ hN
    | que _ _ _ _ b cap cs tt hN hr hb hs hcap hm =>
     refine ⟨_, run_sliced hu hi' (run_bounds true n cap l.toNat h.toNat cap (lo_ok hl hlo h0) (hi_ok hh hhi (by omega) fun _ => rfl) (.inl ⟨rfl, rfl⟩) (toNat_le h1) (by omega) (Nat.le_refl _)), ?_⟩
     rw [show (h - l).toNat = h.toNat - l.toNat by omega]
     by_cases e : cap = l.toNat
     ·rw [if_pos e, show h.toNat - l.toNat = 0 by omega, show cap - l.toNat = 0 by omega]
      exact .queNil _ _ _ _ hN
     ·rw [if_neg e]
      simp only [Option.map_some, addr_add, ← Nat.add_mul]
      exact .que _ _ _ _ b _ cs tt hN hr hb (by rw [hs]; congr 1; omega) (by omega) (by omega)
   ·trivial
  ·rename_i id off n k'
   split
   ·rename_i l h hl hh
    rintro ⟨h0, h4, h1, h2, rfl⟩
    obtain rfl := repO_none hmx
    cases hx with
    | asl _ _ _ _ b cap hN hr hcap =>
     refine ⟨_, run_sliced hu hi' (run_bounds true n cap l.toNat h.toNat cap (lo_ok hl hlo h0) (hi_ok hh hhi (by omega) fun _ => rfl) (.inl ⟨rfl, rfl⟩) (toNat_le h1) (by omega) (Nat.le_refl _)), ?_⟩
     have e : (if cap = l.toNat then some (⟨b, off, none⟩ : Addr) else (some (⟨b, off, none⟩ : Addr)).map (·.add (l.toNat * i.size))) = some ⟨b, off + l.toNat * i.size, none⟩ := by
      split
      ·have : l.toNat = 0 := by omega
       rw [this]; simp
      ·simp [addr_add]
     rw [e, show (h - l).toNat = h.toNat - l.toNat by omega]
     exact .asl _ _ _ _ b _ hN hr (by omega)
   ·trivial
  ·trivial
 ·rename_i ag sz z n e k ht
  obtain ⟨hu, i, hi', rfl⟩ := array_of' ht
  split
  ·trivial
  ·obtain rfl := repO_none hmx
   split
   ·rename_i id off
    split
    ·rename_i l h hl hh
     rintro ⟨h0, h4, h1, h2⟩
     cases hx with
     | ptr _ _ b hN hr =>
      refine ⟨_, run_sliced_array hu hi' (run_bounds false n n l.toNat h.toNat n (lo_ok hl hlo h0) (hi_ok hh hhi (by omega) fun _ => rfl) (.inl ⟨rfl, rfl⟩) (toNat_le h1) (by omega) (Nat.le_refl _)), ?_⟩
      have e : (if n = l.toNat then (⟨b, off, none⟩ : Addr) else Addr.add ⟨b, off, none⟩ (l.toNat * i.size)) = ⟨b, off + l.toNat * i.size, none⟩ := by
       split
       ·have : l.toNat = 0 := by omega
        rw [this]; simp
       ·simp [addr_add]
      rw [e, show (h - l).toNat = h.toNat - l.toNat by omega]
      exact .asl _ _ _ _ b _ hN hr (by omega)
    ·trivial
   ·rename_i o m row
    split
    ·rename_i l h hl hh
     rintro ⟨h0, h1, h2, h3⟩
     cases hx with
     | ref _ _ _ b off f hG hc hr =>
      refine ⟨_, run_sliced_array hu hi' (run_bounds false n n l.toNat h.toNat n (lo_ok hl hlo h0) (hi_ok hh hhi (by omega) fun _ => rfl) (.inl ⟨rfl, rfl⟩) (toNat_le h1) (by omega) (Nat.le_refl _)), ?_⟩
      rw [show (h - l).toNat = h.toNat - l.toNat by omega]
      have hle : ∀ x y, x < h.toNat - l.toNat → y < i.size → (l.toNat + x) * i.size + y < m := fun x y hx hy => by
       have := row_lt (show l.toNat + x < n by omega) hy
       omega
      by_cases e0 : h.toNat - l.toNat = 0
      ·rw [e0]
       exact .arrNil _ _ _ _ _ _ fun hf => by
        rcases bnd_spec hh hhi with ⟨_, _, e⟩ | ⟨e, _⟩
        ·omega
        ·rw [e] at hf; cases hf
      ·rw [if_neg (by omega)]
       simp only [addr_add]
       refine .arr _ _ _ _ _ b (off + l.toNat * i.size) _ (fun x y => f ((l.toNat + x) * i.size + y)) hG (fun hf => ?_) (by omega) (fun x y hx hy => ?_) fun x y hx hy => hr _ (hle x y hx hy)
       ·rcases bnd_spec hh hhi with ⟨_, _, e⟩ | ⟨e, _⟩
        ·omega
        ·rw [e] at hf; cases hf
       ·rw [← hc _ (hle x y hx hy), Nat.add_mul]
        congr 2
        omega
    ·trivial
   ·trivial
 ·trivial
end
end Go.Sx
end
section
set_option linter.unusedVariables false
set_option linter.unusedSimpArgs false
namespace Go.Sx
open Go.RowKit
def rMakeSlice (P : Program) (t : TypeId) (l c : SV) : Res :=
 match tyOf P t with
 | some ⟨_, _, _, .slice e k⟩ => match tyOf P e with
  | some ⟨_, _, some z, _⟩ => match l, c with
   | .val (.int _ l), .val (.int _ c) => .new (0 ≤ l ∧ l ≤ c ∧ c ≤ 1000000 ∧ bytesOf P e ≤ 100000000 ∧ z.length = k ∧ 0 < k) (.rows e k c.toNat (fun _ j => .val (z.getD j undef))) (fun id => .vec id l.toNat k)
   | _, _ => .bad
  | _ => .bad
 | _ => .bad
def rCopy (P : Program) (t : TypeId) (hp : List (Nat × Blk)) (d x : SV) : Res :=
 match tyOf P t with
 | some ⟨_, _, _, .slice e k⟩ => match rowsOf hp x with
  | some (obl2, m, k2, row2) => match d with
   | .vec id n k' => match blk hp id with
    | some (.rows t' k'' n' row) => .updv (obl2 ∧ (min m n = 0 ∨ k2 = k) ∧ k' = k ∧ k'' = k ∧ n ≤ n' ∧ 0 < k ∧ oneRows m k row2) id (.rows t' k n' (fun i j => if i < min m n then row2 i j else row i j)) (.val (.int .i64 (min m n : Nat)))
    | _ => .bad
   | .asl id off n k' => match blk hp id with
    | some (.cells t' l) => .updv (obl2 ∧ k2 = 1 ∧ k' = 1 ∧ k = 1 ∧ off + n ≤ l.length ∧ 0 < m ∧ 0 < n ∧ oneRows m 1 row2) id (.cells t' (l.take off ++ (List.range (min m n)).map (fun i => row2 i 0) ++ l.drop (off + min m n))) (.val (.int .i64 (min m n : Nat)))
    | _ => .bad
   | _ => .bad
  | none => .bad
 | _ => .bad
def rClear (P : Program) (t : TypeId) (hp : List (Nat × Blk)) (d : SV) : Res :=
 match tyOf P t with
 | some ⟨_, _, _, .slice e k⟩ => match tyOf P e with
  | some ⟨_, _, some [z], _⟩ => match d with
   | .asl id off n k' => match blk hp id with
    | some (.cells t' l) => .upd (off + n ≤ l.length ∧ k' = 1 ∧ k = 1 ∧ z.oneCell' = true ∧ 0 < n) id (.cells t' (l.take off ++ List.replicate n (.val z) ++ l.drop (off + n)))
    | _ => .bad
   | .vec id n k' => match blk hp id with
    | some (.rows t' k'' m row) => .upd (k' = 1 ∧ k'' = 1 ∧ k = 1 ∧ n ≤ m ∧ z.oneCell' = true) id (.rows t' 1 m (fun i j => if i < n then .val z else row i j))
    | _ => .bad
   | _ => .bad
  | _ => .bad
 | _ => .bad
section
variable {P : Program} {base : World} {okc : Nat → Prop} {r : Nat → Option Nat} {N : Nat → Prop} {G : Bool → Nat → Prop} {w : World} {hp : List (Nat × Blk)}
theorem run_makeS (h : Sat base okc r N hp w) (t : TypeId) {l c : SV} {u v : Value} (hl : Rep r N (Gd base okc r N hp w) w l u) (hc : Rep r N (Gd base okc r N hp w) w c v) : GoodN P base okc r N hp w (Instr.makeSlice t u v) (rMakeSlice P t l c) := by
 unfold rMakeSlice
 split
 rotate_left
 ·trivial
 rename_i ag sz z0 e k ht
 obtain ⟨hte, i, hi, hk⟩ := slice_of' ht
 split
 rotate_left
 ·trivial
 rename_i ag' sz' z d hte'
 obtain ⟨zv, hz, rfl⟩ := zero_of hi hte'
 split
 rotate_left
 ·trivial
 rename_i kl l kc c
 rintro ⟨h0, h1, h2, h3, h4, h5⟩ id hp' hid hat hoth
 cases hl; cases hc
 subst hk
 rw [bytes_of hi] at h3
 have hby : (i.bytes : Int) * c ≤ 281474976710656 := by
  have h6 : i.bytes * c.toNat ≤ 100000000 * 1000000 := Nat.mul_le_mul h3 (by omega)
  have h7 : ((i.bytes * c.toNat : Nat) : Int) ≤ 281474976710656 := by omega
  rwa [Int.natCast_mul, Int.toNat_of_nonneg (by omega)] at h7
 have hrun := run_make (P := P) w t e i zv hte hi hz kl kc l c h0 h1 hby (by omega)
 have hsz : (madeCells zv.cells (c.toNat * i.size)).size = c.toNat * i.size := size_madeCells _ _
 have hzs : zv.cells.size = i.size := by simpa using h4
 have hst := h.new id hid (.cells (madeCells zv.cells (c.toNat * i.size)) e) _ hat hoth fun r' N' G' h1 h2 h3 h4 h6 => .rows _ _ _ _ _ _ (heap_alloc_at w _) (by rw [hsz]; exact Nat.le_refl _) fun x j hx hj => by
  have hlt := row_lt hx hj
  have e1 : (madeCells zv.cells (c.toNat * i.size)).getD (x * i.size + j) undef = zv.cells.toList.getD j undef := by
   have hm : (x * i.size + j) % zv.cells.size = j := by rw [hzs, Nat.mul_comm, Nat.mul_add_mod, Nat.mod_eq_of_lt hj]
   have hj' : j < zv.cells.size := by omega
   simp [madeCells, hlt, hm, hj']
  rw [e1]
  exact .val _
 exact ⟨_, _, _, hrun, hst, .vec _ _ _ _ _ _ _ (.inr rfl) (upd_same _ _ _) (heap_alloc_at w _) hsz (by omega) (by simp [maxLen]; omega)⟩
theorem Sat.same (h : Sat base okc r N hp w) {id : Nat} {x x' : Blk} (hm : blk hp id = some x) (hx' : ∀ G', (∀ o c, Gd base okc r N hp w o c → G' o c) → N id → BlkRep r N G' w (r id) x') : Step base okc r N hp w r N (setBlk hp id x') w := by
 have hk : ∀ j y, blk (setBlk hp id x') j = some y → ∃ z, blk hp j = some z := fun j y hy => by
  rw [blk_setBlk] at hy
  split at hy
  ·rename_i e; subst e; exact ⟨x, hm⟩
  ·exact ⟨y, hy⟩
 have hG : ∀ o c, Gd base okc r N hp w o c → Gd base okc r N (setBlk hp id x') w o c ∧ w.heap[c]? = w.heap[c]? := fun o c ⟨h1, h2, h3⟩ =>
  ⟨⟨h1, fun i y hy hi => let ⟨z, hz⟩ := hk i y hy; h2 i z hz hi, h3⟩, rfl⟩
 refine ⟨⟨h.below, fun i y hy hi => ?_, fun i y c hy hi hc => let ⟨z, hz⟩ := hk i y hy; h.own i z c hz hi hc,
  fun i y i' y' c hy hi hy' hi' hc hc' => let ⟨z, hz⟩ := hk i y hy; let ⟨z', hz'⟩ := hk i' y' hy'; h.inj i z i' z' c hz hi hz' hi' hc hc'⟩, fun _ _ => rfl, fun _ h => h, hG, Shapes.refl w⟩
 rw [blk_setBlk] at hy
 split at hy
 ·rename_i e; subst e
  rw [hm] at hy; cases hy
  exact hx' _ (fun o c hc => (hG o c hc).1) hi
 ·exact (h.rep i y hy hi).mono (fun _ _ => rfl) (fun _ h => h) hG (Shapes.refl w) fun _ _ => rfl
theorem run_copyS (h : Sat base okc r N hp w) (t ty t' : TypeId) {d x : SV} {v u : Value} (hd : Rep r N (Gd base okc r N hp w) w d v) (hx : Rep r N (Gd base okc r N hp w) w x u) :
  GoodV P base okc r N hp w (Builtin.copy_ #[t, t'] ty #[v, u]) (rCopy P t hp d x) := by
 unfold rCopy
 split
 rotate_left
 ·trivial
 rename_i ag sz z0 e k ht
 obtain ⟨hte, i, hi, hk⟩ := slice_of' ht
 split
 rotate_left
 ·trivial
 rename_i obl2 m k2 row2 hr2
 split
 rotate_left
 ·rename_i id off n k'
  split
  rotate_left
  ·trivial
  rename_i t'' l hblk
  rintro ⟨h1, rfl, rfl, hk1, h5, h6, h8, h7⟩
  rw [hk1] at hk
  obtain ⟨a2, c2, f2, hu⟩ := rowsOf_spec (P := P) h.ok hx hr2 h1
  cases hd with
  | asl _ _ _ _ b cap hN hrn hcap =>
   have hrep := h.rep _ _ hblk hN
   rw [hrn] at hrep
   cases hrep with
   | cells _ _ _ cs hb hl hc =>
    have hmn : Nat.min m n = min m n := rfl
    obtain ⟨rfl, hle2, hat2, hrp2⟩ := hu
    rcases hat2 with hz2 | ⟨b2, off2, rfl, hc2⟩
    ·omega
    have hc2' : ∀ a j, a < min m n → j < 1 → w.cell? ⟨b2, off2 + (a * 1 + j), none⟩ = some (f2 a j) := fun a j ha hj => hc2 a j (by omega) hj
    have hload : (Builtin.firstCells 1 (min m n) (.slice (some ⟨b2, off2, none⟩) m c2)).run P w = .ok (flat f2 (min m n) 1).toArray w :=
     run_firstCells_some w 1 (min m n) ⟨b2, off2, none⟩ m c2 _ (flat_length _ _ _) (flat_cell hc2' (by omega))
    obtain ⟨w', hrun, hst⟩ := store_cells (P := P) h hblk hN hrn hb off (flat f2 (min m n) 1) (by rw [flat_length]; omega) (flat_one (fun a j ha hj => hrp2 a j (by omega) hj) (fun a j ha hj => h7 a j (by omega) hj) (by omega))
     (.cells t'' (l.take off ++ (List.range (min m n)).map (fun i => row2 i 0) ++ l.drop (off + min m n))) (fun G' w' cs' hw' hsz hget hrep' => by
      refine .cells _ _ _ cs' hw' (by simp; omega) fun x sv hx => ?_
      rw [hget, flat_length, Nat.mul_one]
      by_cases hj : off ≤ x ∧ x < off + min m n
      ·rw [List.append_assoc, List.getElem?_append_right (by simp; omega), List.getElem?_append_left (by simp; omega)] at hx
       have e : min off l.length = off := by omega
       rw [List.length_take, e, List.getElem?_map, List.getElem?_range (by omega)] at hx
       simp only [Option.map_some, Option.some.injEq] at hx
       subst hx
       have e2 := flat_get f2 (min m n) 1 (x - off) 0 (by omega) (by omega)
       rw [Nat.mul_one, Nat.add_zero] at e2
       rw [if_pos hj, List.getD_eq_getElem?_getD, e2]
       exact hrep' _ _ (hrp2 (x - off) 0 (by omega) (by omega))
      ·rw [if_neg hj]
       refine hrep' _ _ (hc x sv ?_)
       by_cases hj' : x < off
       ·rw [List.append_assoc, List.getElem?_append_left (by simp; omega), List.getElem?_take_of_lt hj'] at hx
        exact hx
       ·rw [List.getElem?_append_right (by simp; omega), List.getElem?_drop] at hx
        have e : off + min m n + (x - (l.take off ++ (List.range (min m n)).map (fun i => row2 i 0)).length) = x := by simp; omega
        rwa [e] at hx)
    refine ⟨.int .i64 (min m n : Nat), w', ?_, hst, .val _⟩
    simp only [Builtin.copy_, Sem.run_bind]
    simp [run_underlying hte, Builtin.lenOf, sizeOf, typeInfo, hi, hk, hmn, hload, goInt, hrun]
 ·trivial
 rename_i id n k'
 split
 rotate_left
 ·trivial
 rename_i t'' k'' n' row hblk
 rintro ⟨h1, h2, rfl, rfl, h5, h6, h7⟩
 subst hk
 obtain ⟨a2, c2, f2, hu⟩ := rowsOf_spec (P := P) h.ok hx hr2 h1
 cases hd with
 | vecNil _ _ hN hrn =>
  have hrep := h.rep _ _ hblk hN
  rw [hrn] at hrep
  cases hrep
  have hst := h.same (x' := .rows t'' i.size 0 (fun a j => if a < min m 0 then row2 a j else row a j)) hblk fun G' hG' _ => by rw [hrn]; exact .none _ _ _
  refine ⟨.int .i64 0, w, ?_, hst, by simpa using Rep.val (.int .i64 0)⟩
  rw [hu.eq]
  cases a2 <;> simp [Builtin.copy_, run_underlying hte, Builtin.lenOf, sizeOf, typeInfo, hi, Builtin.firstCells, loadCells, loadCellsFrom, goInt, Nat.min_zero, show Nat.min m 0 = 0 from Nat.min_zero m]
 | vec _ _ _ b cap cs tt hN hrn hb hcs hcap hmx =>
  have hrep := h.rep _ _ hblk hN
  rw [hrn] at hrep
  cases hrep with
  | rows _ _ _ _ _ cs' hb' hl hrep =>
   rw [hb] at hb'
   simp only [Option.some.injEq, Obj.cells.injEq, and_true] at hb'
   obtain ⟨rfl, rfl⟩ := hb'
   have hmn : Nat.min m n = min m n := rfl
   by_cases h0 : min m n = 0
   ·have hst := h.same (x' := .rows tt i.size n' (fun a j => if a < min m n then row2 a j else row a j)) hblk fun G' hG' _ => by
     rw [hrn, h0]
     exact .rows _ _ _ _ b cs hb hl fun a j ha hj => by rw [if_neg (by omega)]; exact (hrep a j ha hj).mono (fun _ _ => rfl) (fun _ h => h) (fun o c hc => ⟨hG' o c hc, rfl⟩) (Shapes.refl w)
    refine ⟨.int .i64 (min m n : Nat), w, ?_, hst, .val _⟩
    rw [hu.eq]
    cases a2 <;> simp [Builtin.copy_, run_underlying hte, Builtin.lenOf, sizeOf, typeInfo, hi, Builtin.firstCells, loadCells, loadCellsFrom, goInt, hmn, h0, storeCells]
   ·have hk2 : k2 = i.size := by rcases h2 with h2 | h2; exact absurd h2 h0; exact h2
    subst hk2
    obtain ⟨rfl, hle2, hat2, hrp2⟩ := hu
    rcases hat2 with hz2 | ⟨b2, off2, rfl, hc2⟩
    ·omega
    have hc2' : ∀ a j, a < min m n → j < i.size → w.cell? ⟨b2, off2 + (a * i.size + j), none⟩ = some (f2 a j) := fun a j ha hj => hc2 a j (by omega) hj
    have hload : (Builtin.firstCells i.size (min m n) (.slice (some ⟨b2, off2, none⟩) m c2)).run P w = .ok (flat f2 (min m n) i.size).toArray w :=
     run_firstCells_some w i.size (min m n) ⟨b2, off2, none⟩ m c2 _ (flat_length _ _ _) (flat_cell hc2' h6)
    have hfit : (min m n) * i.size ≤ cs.size := Nat.le_trans (Nat.mul_le_mul_right _ (by omega)) (hcs ▸ Nat.mul_le_mul_right _ hcap)
    obtain ⟨w', hrun, hst⟩ := store_cells (P := P) h hblk hN hrn hb 0 (flat f2 (min m n) i.size) (by rw [flat_length]; omega) (flat_one (fun a j ha hj => hrp2 a j (by omega) hj) (fun a j ha hj => h7 a j (by omega) hj) h6)
     (.rows tt i.size n' (fun a j => if a < min m n then row2 a j else row a j)) (fun G' w' cs' hw' hsz hget hrep' => by
      refine .rows _ _ _ _ _ cs' hw' (by omega) fun a j ha hj => ?_
      rw [hget, flat_length]
      by_cases hlt : a < min m n
      ·have := row_lt hlt hj
       rw [if_pos hlt, if_pos (by omega), List.getD_eq_getElem?_getD, Nat.sub_zero, flat_get _ _ _ _ _ hlt hj]
       exact hrep' _ _ (hrp2 a j (by omega) hj)
      ·have : min m n * i.size ≤ a * i.size := Nat.mul_le_mul_right _ (by omega)
       rw [if_neg hlt, if_neg (by omega)]
       exact hrep' _ _ (hrep a j ha hj))
    refine ⟨.int .i64 (min m n : Nat), w', ?_, hst, .val _⟩
    simp only [Builtin.copy_, Sem.run_bind]
    simp [run_underlying hte, Builtin.lenOf, sizeOf, typeInfo, hi, hmn, hload, goInt, hrun]
theorem run_clearS (h : Sat base okc r N hp w) (t ty : TypeId) {d : SV} {v : Value} (hd : Rep r N (Gd base okc r N hp w) w d v) {obl : Prop} {id : Nat} {b : Blk} (hres : rClear P t hp d = .upd obl id b) (ho : obl) :
  ∃ w', (Builtin.clear_ #[t] ty #[v]).run P w = .ok undef w' ∧ Step base okc r N hp w r N (setBlk hp id b) w' := by
 unfold rClear at hres
 split at hres
 rotate_left
 ·cases hres
 rename_i ag sz z0 e k ht
 obtain ⟨hte, i, hi, hk⟩ := slice_of' ht
 split at hres
 rotate_left
 ·cases hres
 rename_i ag' sz' z d' hte'
 obtain ⟨zv, hz, hzl⟩ := zero_of hi hte'
 split at hres
 rotate_left
 ·rename_i id' n k'
  split at hres
  rotate_left
  ·cases hres
  rename_i t' k'' m row hblk
  simp only [Res.upd.injEq] at hres
  obtain ⟨rfl, rfl, rfl⟩ := hres
  obtain ⟨rfl, rfl, rfl, h3, h4⟩ := ho
  have hzc : (Builtin.zeroCells zv.cells n).toList = List.replicate n z := by
   have hzs : zv.cells = #[z] := by cases hh : zv.cells; simp_all
   apply List.ext_getElem?
   intro x
   simp only [Builtin.zeroCells, hzs, List.size_toArray, List.length_cons, List.length_nil, Nat.zero_add, Nat.mul_one, Nat.mod_one]
   by_cases hx : x < n
   ·simp [hx, List.getElem?_replicate]
   ·simp [hx, List.getElem?_replicate]
  cases hd with
  | vecNil _ _ hN hrn =>
   have hrep := h.rep _ _ hblk hN
   rw [hrn] at hrep
   cases hrep
   have hst := h.same (x' := .rows t' 1 0 (fun i j => if i < 0 then .val z else row i j)) hblk fun G' hG' _ => by rw [hrn]; exact .none _ _ _
   refine ⟨w, ?_, hst⟩
   simp [Builtin.clear_, run_underlying hte, undef]
  | vec _ _ _ b cap cs tt hN hrn hb hcs hcap hmx =>
   have hrep := h.rep _ _ hblk hN
   rw [hrn] at hrep
   cases hrep with
   | rows _ _ _ _ _ cs' hb' hl hrep =>
    rw [hb] at hb'
    simp only [Option.some.injEq, Obj.cells.injEq, and_true] at hb'
    obtain ⟨rfl, rfl⟩ := hb'
    rcases n with _ | n
    ·have hst := h.same (x' := .rows tt 1 m (fun i j => if i < 0 then .val z else row i j)) hblk fun G' hG' _ => by
      rw [hrn]
      exact .rows _ _ _ _ b cs hb hl fun a j ha hj => by rw [if_neg (by omega)]; exact (hrep a j ha hj).mono (fun _ _ => rfl) (fun _ h => h) (fun o c hc => ⟨hG' o c hc, rfl⟩) (Shapes.refl w)
     refine ⟨w, ?_, hst⟩
     simp [Builtin.clear_, run_underlying hte, undef]
    ·obtain ⟨w', hrun, hst⟩ := store_cells (P := P) h hblk hN hrn hb 0 (List.replicate (n + 1) z) (by simp; omega) (fun x hx => by rw [List.eq_of_mem_replicate hx]; exact h4)
      (.rows tt 1 m (fun i j => if i < n + 1 then .val z else row i j)) (fun G' w' cs' hw' hsz hget hrep' => by
       refine .rows _ _ _ _ _ cs' hw' (by omega) fun a j ha hj => ?_
       rw [hget]
       simp only [List.length_replicate]
       by_cases hlt : a < n + 1
       ·rw [if_pos hlt, if_pos (by omega), List.getD_eq_getElem?_getD, List.getElem?_replicate, if_pos (by omega)]
        exact .val _
       ·rw [if_neg hlt, if_neg (by omega)]
        exact hrep' _ _ (hrep a j ha hj))
     refine ⟨w', ?_, hst⟩
     simp [Builtin.clear_, run_underlying hte, zeroValue, typeInfo, hi, hz, hzc, hrun, undef]
 ·cases hres
 rename_i id' off n k'
 split at hres
 rotate_left
 ·cases hres
 rename_i t' l hblk
 simp only [Res.upd.injEq] at hres
 obtain ⟨rfl, rfl, rfl⟩ := hres
 obtain ⟨h1, rfl, rfl, h4, h5⟩ := ho
 cases hd with
 | asl _ _ _ _ b cap hN hr hcap =>
  have hrep := h.rep _ _ hblk hN
  rw [hr] at hrep
  cases hrep with
  | cells _ _ _ cs hb hl hc =>
   obtain ⟨w', hrun, hst⟩ := store_cells (P := P) h hblk hN hr hb off (List.replicate n z) (by simp; omega) (fun x hx => by rw [List.eq_of_mem_replicate hx]; exact h4) (.cells t' (l.take off ++ List.replicate n (.val z) ++ l.drop (off + n))) (fun G' w' cs' hw' hsz hget hrep' => by
    refine .cells _ _ _ cs' hw' (by simp; omega) fun x sv hx => ?_
    rw [hget]
    simp only [List.length_replicate]
    by_cases hj : off ≤ x ∧ x < off + n
    ·rw [List.append_assoc, List.getElem?_append_right (by simp; omega), List.getElem?_append_left (by simp; omega)] at hx
     have : min off l.length = off := by omega
     rw [List.length_take, this, List.getElem?_replicate] at hx
     rw [if_pos (by omega)] at hx
     cases hx
     rw [if_pos hj, List.getD_eq_getElem?_getD, List.getElem?_replicate, if_pos (by omega)]
     exact .val _
    ·rw [if_neg hj]
     refine hrep' _ _ (hc x sv ?_)
     by_cases hj' : x < off
     ·rw [List.append_assoc, List.getElem?_append_left (by simp; omega), List.getElem?_take_of_lt hj'] at hx
      exact hx
     ·rw [List.getElem?_append_right (by simp; omega), List.getElem?_drop] at hx
      have e : off + n + (x - (l.take off ++ List.replicate n (SV.val z)).length) = x := by simp; omega
      rwa [e] at hx)
   refine ⟨w', ?_, hst⟩
   have hzc : (Builtin.zeroCells zv.cells n).toList = List.replicate n z := by
    have hzs : zv.cells = #[z] := by cases hh : zv.cells; simp_all
    apply List.ext_getElem?
    intro x
    simp only [Builtin.zeroCells, hzs, List.size_toArray, List.length_cons, List.length_nil, Nat.zero_add, Nat.mul_one, Nat.mod_one]
    by_cases hx : x < n
    ·simp [hx, List.getElem?_replicate]
    ·simp [hx, List.getElem?_replicate]
   have hn : n ≠ 0 := by omega
   obtain ⟨n, rfl⟩ : ∃ k, n = k + 1 := ⟨n - 1, by omega⟩
   simp [Builtin.clear_, run_underlying hte, zeroValue, typeInfo, hi, hz, hzc, hrun, undef]
end
end Go.Sx
end
