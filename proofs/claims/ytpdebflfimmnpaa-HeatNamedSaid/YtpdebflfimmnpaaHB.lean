/- A part of the proof. -/
import Derived.Test.YtpdebflfimmnpaaProg
import Derived.Test.YtpdebflfimmnpaaHA
import Derived.Test.YtpdebflfimmnpaaEF
import Derived.Test.YtpdebflfimmnpaaEG
section
set_option linter.unusedSimpArgs false
set_option linter.unusedVariables false
set_option linter.defProp false
set_option maxRecDepth 100000
set_option maxHeartbeats 16000000
namespace Go.He
open Go.Proofs
open Go.Sx
theorem follows : Try.prog.follows .mixedOrders = true := by kernel_rfl
theorem TY : True ∧ tyOf Try.prog 2 = some ⟨false, 1, some [.int .i64 0], .int .i64⟩ ∧ tyOf Try.prog 3 = some ⟨false, 1, some [.int .i64 0], .int .i64⟩ ∧ tyOf Try.prog 4 = some ⟨false, 1, some [.bool false], .bool⟩ ∧ tyOf Try.prog 5 = some ⟨false, 1, some [.int .u8 0], .int .u8⟩ ∧ tyOf Try.prog 22 = some ⟨false, 1, some [.slice none 0 0], .slice 39 3⟩ ∧ tyOf Try.prog 24 = some ⟨true, 2, some [.int .i64 0, .slice none 0 0], .struct [(0, 1, some false), (1, 1, some false)]⟩ ∧ tyOf Try.prog 25 = some ⟨false, 1, some [.slice none 0 0], .slice 3 1⟩ ∧ tyOf Try.prog 28 = some ⟨false, 1, some [.int .i64 0], .int .i64⟩ ∧ tyOf Try.prog 39 = some ⟨true, 3, some [.int .i64 0, .int .i64 0, .int .i64 0], .struct [(0, 1, some false), (1, 1, some false), (2, 1, some false)]⟩ ∧ tyOf Try.prog 42 = some ⟨true, 2, some [.int .i64 0, .int .i64 0], .struct [(0, 1, some false), (1, 1, some false)]⟩ ∧ tyOf Try.prog 47 = some ⟨false, 1, some [.slice none 0 0], .slice 5 1⟩ ∧ tyOf Try.prog 54 = some ⟨true, 3, some [.int .u8 0, .int .u8 0, .int .u8 0], .array 3 5 1⟩ ∧ tyOf Try.prog 57 = some ⟨false, 1, some [.int .u16 0], .int .u16⟩ ∧ tyOf Try.prog 72 = some ⟨true, 5, some [.int .i64 0, .int .i64 0, .int .i64 0, .int .i64 0, .int .i64 0], .array 5 3 1⟩ ∧ tyOf Try.prog 73 = some ⟨true, 5, some [.int .i64 0, .int .i64 0, .int .i64 0, .int .i64 0, .int .i64 0], .array 5 3 1⟩ ∧ tyOf Try.prog 68 = some ⟨false, 1, some [.nilFunc], .other⟩ ∧ tyOf Try.prog 75 = some ⟨false, 1, some [.nilFunc], .other⟩ ∧ tyOf Try.prog 78 = some ⟨false, 1, some [.nilFunc], .other⟩ ∧ tyOf Try.prog 87 = some ⟨false, 1, some [.nilFunc], .other⟩ ∧ tyOf Try.prog 69 = some ⟨false, 1, some [.pointer none], .other⟩ ∧ tyOf Try.prog 81 = some ⟨false, 1, some [.slice none 0 0], .slice 25 1⟩ ∧ tyOf Try.prog 83 = some ⟨false, 1, some [.slice none 0 0], .slice 73 5⟩ ∧ tyOf Try.prog 98 = some ⟨true, 2, some [.int .i64 0, .slice none 0 0], .struct [(0, 2, some true)]⟩ ∧ tyOf Try.prog 102 = some ⟨false, 1, some [.map none], .map 107 3⟩ ∧ tyOf Try.prog 107 = some ⟨true, 2, some [.int .i64 0, .int .i64 0], .struct [(0, 1, some false), (1, 1, some false)]⟩ ∧ placesOf Try.prog 24 = some [(0, 1), (1, 1)] ∧ placesOf Try.prog 39 = some [(0, 1), (1, 1), (2, 1)] ∧ placesOf Try.prog 42 = some [(0, 1), (1, 1)] ∧ placesOf Try.prog 54 = some [(0, 1), (1, 1), (2, 1)] ∧ placesOf Try.prog 73 = some [(0, 1), (1, 1), (2, 1), (3, 1), (4, 1)] ∧ placesOf Try.prog 98 = some [(0, 2)] ∧ placesOf Try.prog 107 = some [(0, 1), (1, 1)] ∧ eqInfo Try.prog 39 = some [.i .i64, .i .i64, .i .i64] ∧ eqInfo Try.prog 42 = some [.i .i64, .i .i64] ∧ eqInfo Try.prog 73 = some [.i .i64, .i .i64, .i .i64, .i .i64, .i .i64] ∧ bytesOf Try.prog 2 = 8 ∧ bytesOf Try.prog 3 = 8 ∧ bytesOf Try.prog 5 = 1 ∧ bytesOf Try.prog 25 = 24 ∧ bytesOf Try.prog 39 = 24 ∧ bytesOf Try.prog 73 = 40 ∧ bytesOf Try.prog 107 = 16 := ⟨trivial, by kernel_rfl, by kernel_rfl, by kernel_rfl, by kernel_rfl, by kernel_rfl, by kernel_rfl, by kernel_rfl, by kernel_rfl, by kernel_rfl, by kernel_rfl, by kernel_rfl, by kernel_rfl, by kernel_rfl, by kernel_rfl, by kernel_rfl, by kernel_rfl, by kernel_rfl, by kernel_rfl, by kernel_rfl, by kernel_rfl, by kernel_rfl, by kernel_rfl, by kernel_rfl, by kernel_rfl, by kernel_rfl, by kernel_rfl, by kernel_rfl, by kernel_rfl, by kernel_rfl, by kernel_rfl, by kernel_rfl, by kernel_rfl, by kernel_rfl, by kernel_rfl, by kernel_rfl, by kernel_rfl, by kernel_rfl, by kernel_rfl, by kernel_rfl, by kernel_rfl, by kernel_rfl, by kernel_rfl⟩
theorem by2 : bytesOf Try.prog 3 = 8 := by kernel_rfl
def I (n : Int) : SV := .val (.int .i64 n)
def B (b : Bool) : SV := .val (.bool b)
def ints (n : Nat) (u : Nat → Int) : SV := .arr false false n 1 (fun i _ => .val (.int .i64 (u i)))
theorem I_eq {a b : Int} (h : a = b) : SV.val (Value.int IntKind.i64 a) = SV.val (Value.int IntKind.i64 b) := by rw [h]
theorem B_eq {a b : Bool} (h : a = b) : SV.val (Value.bool a) = SV.val (Value.bool b) := by rw [h]
def wf (x : Wd) : Nat → SV
 | 0 => .val (.int .i64 x.a)
 | 1 => .val (.int .i64 x.b)
 | _ => .val (.int .i64 x.k)
def arrs (n : Nat) (g : Nat → Nat → Int) : SV := .arr false false n 5 (fun i j => .val (.int .i64 (g i j)))
def wsv (m : Nat) (w : Nat → Wd) : SV := .arr false false m 3 (fun i j => wf (w i) j)
def wag (x : Wd) : SV := .agg [.val (.int .i64 x.a), .val (.int .i64 x.b), .val (.int .i64 x.k)]
def rsv (n : Int) (m : Nat) (w : Nat → Wd) : SV := .agg [.val (.int .i64 n), .arr false false m 3 (fun i j => wf (w i) j)]
def rf (n : Int) (m : Nat) (w : Nat → Wd) : Nat → SV
 | 0 => .val (.int .i64 n)
 | _ => .arr false false m 3 (fun i j => wf (w i) j)
def pref (n : Int) (m : Nat) (w : Nat → Wd) : SV := .ref false 2 (fun j => rf n m w j)
def pl (f : Nat → Int) : List SV := [.val (.int .i64 (f 0)), .val (.int .i64 (f 1)), .val (.int .i64 (f 2)), .val (.int .i64 (f 3)), .val (.int .i64 (f 4))]
def psv (f : Nat → Int) : SV := .agg (pl f)
def pf (f : Nat → Int) (j : Nat) : SV := .val (.int .i64 (f j))
theorem five {k : Nat} (h : k < 5) : k = 0 ∨ k = 1 ∨ k = 2 ∨ k = 3 ∨ k = 4 := by omega
theorem three {k : Nat} (h : k < 3) : k = 0 ∨ k = 1 ∨ k = 2 := by omega
theorem pl_get (f : Nat → Int) {k : Nat} (h : k < 5) : (pl f)[k]? = some (.val (.int .i64 (f k))) := by
 rcases five h with rfl | rfl | rfl | rfl | rfl <;> rfl
theorem pl_set (f : Nat → Int) (k : Nat) (x : Int) : (pl f).set k (.val (.int .i64 x)) = pl (upN f k x) := by
 match k with
 | 0 => rfl
 | 1 => rfl
 | 2 => rfl
 | 3 => rfl
 | 4 => rfl
 | k + 5 => simp only [pl, List.set_cons_succ, List.set_nil]; simp [upN]
theorem pl_len (f : Nat → Int) : (pl f).length = 5 := rfl
theorem pl_take (f : Nat → Int) : List.take 5 (pl f) = pl f := rfl
theorem pl_drop (f : Nat → Int) : List.drop 5 (pl f) = [] := rfl
theorem pl_one (f : Nat → Int) : allOne (pl f) = true := rfl
theorem pl_fit (f : Nat → Int) : fitS [.i .i64, .i .i64, .i .i64, .i .i64, .i .i64] (pl f) = true := by kernel_rfl
def eq5 (f g : Nat → Int) : Prop := ∀ i, i < 5 → f i = g i
instance (f g : Nat → Int) : Decidable (eq5 f g) := by unfold eq5; infer_instance
theorem pl_eq (f g : Nat → Int) : eqSVs (pl f) (pl g) = decide (eq5 f g) := by
 have e : eq5 f g ↔ (f 0 = g 0 ∧ f 1 = g 1 ∧ f 2 = g 2 ∧ f 3 = g 3 ∧ f 4 = g 4) := ⟨fun h => ⟨h 0 (by omega), h 1 (by omega), h 2 (by omega), h 3 (by omega), h 4 (by omega)⟩, fun ⟨a, b, c, d, e⟩ i hi => by
  rcases five hi with rfl | rfl | rfl | rfl | rfl <;> assumption⟩
 rw [Bool.eq_iff_iff, decide_eq_true_eq, e]
 simp [pl, eqSVs, eqV]
theorem pl_sub (hp : List (Nat × Blk)) (f : Nat → Int) : SubL hp (pl f) (pl f) = True := by simp [pl, SubL, Go.Sx.Sub]
theorem pl_old (f : Nat → Int) : OldL (pl f) = True := by simp [pl, OldL, Old]
theorem pl_fresh (f : Nat → Int) : FreshL (pl f) = True := by simp [pl, FreshL, Fresh]
theorem pl_wk (hp : List (Nat × Blk)) (m : Nat → Option Nat) (nn : Nat) (sl : Nat → Bool) (f : Nat → Int) : WkL hp m nn sl (pl f) (pl f) = True := by simp [pl, WkL, Wk]
theorem wf_sub (hp : List (Nat × Blk)) (x : Wd) (j : Nat) : Go.Sx.Sub hp (wf x j) (wf x j) = True := by
 match j with
 | 0 => simp [wf, Go.Sx.Sub]
 | 1 => simp [wf, Go.Sx.Sub]
 | j + 2 => simp [wf, Go.Sx.Sub]
theorem wf_old (x : Wd) (j : Nat) : Old (wf x j) = True := by
 match j with
 | 0 => simp [wf, Old]
 | 1 => simp [wf, Old]
 | j + 2 => simp [wf, Old]
theorem wf_fresh (x : Wd) (j : Nat) : Fresh (wf x j) = True := by
 match j with
 | 0 => simp [wf, Fresh]
 | 1 => simp [wf, Fresh]
 | j + 2 => simp [wf, Fresh]
theorem wf_wk (hp : List (Nat × Blk)) (m : Nat → Option Nat) (nn : Nat) (sl : Nat → Bool) (x : Wd) (j : Nat) : Wk hp m nn sl (wf x j) (wf x j) = True := by
 match j with
 | 0 => simp [wf, Wk]
 | 1 => simp [wf, Wk]
 | j + 2 => simp [wf, Wk]
theorem rf_sub (hp : List (Nat × Blk)) (n : Int) (k : Nat) (w : Nat → Wd) (j : Nat) : Go.Sx.Sub hp (rf n k w j) (rf n k w j) = True := by
 match j with
 | 0 => simp [rf, Go.Sx.Sub]
 | j + 1 => simp [rf, Go.Sx.Sub, wf_sub]
theorem rf_old (n : Int) (k : Nat) (w : Nat → Wd) (j : Nat) : Old (rf n k w j) = True := by
 match j with
 | 0 => simp [rf, Old]
 | j + 1 => simp [rf, Old, wf_old]
theorem rf_wk (hp : List (Nat × Blk)) (m : Nat → Option Nat) (nn : Nat) (sl : Nat → Bool) (n : Int) (k : Nat) (w : Nat → Wd) (j : Nat) : Wk hp m nn sl (rf n k w j) (rf n k w j) = True := by
 match j with
 | 0 => simp [rf, Wk]
 | j + 1 => simp [rf, Wk, wf_wk]
theorem rSl_q100 (ag : Bool) (sz : Nat) (z : Option (List Value)) (e : TypeId) (k : Nat) (id off n k2 : Nat) (kl : IntKind) (l : Int) : rSlice (some ⟨ag, sz, z, .slice e k⟩) (.que id off n k2) (some (.val (.int kl l))) none none = .pure (0 ≤ l ∧ l ≤ (n : Int) ∧ (n : Int) = n ∧ k2 = k) (.que id (off + l.toNat) ((n : Int) - l).toNat k) := rfl
theorem lit2 (x y : Int) : ∀ (i : Nat), i < 2 → [SV.val (.int .i64 x), SV.val (.int .i64 y)][i]?.getD SV.top = SV.val (.int .i64 (if i = 0 then x else y))
 | 0, _ => rfl
 | 1, _ => rfl
theorem nil_app (l : List SV) : [] ++ l = l := rfl
theorem all2 (P : Nat → Prop) : (∀ j, j < 2 → P j) = (P 0 ∧ P 1) := propext ⟨fun h => ⟨h 0 (by omega), h 1 (by omega)⟩, fun ⟨a, b⟩ j hj => by
 have : j = 0 ∨ j = 1 := by omega
 rcases this with rfl | rfl <;> assumption⟩
theorem all3 (P : Nat → Prop) : (∀ j, j < 3 → P j) = (P 0 ∧ P 1 ∧ P 2) := propext ⟨fun h => ⟨h 0 (by omega), h 1 (by omega), h 2 (by omega)⟩, fun ⟨a, b, c⟩ j hj => by
 rcases three hj with rfl | rfl | rfl <;> assumption⟩
theorem mul_1 (a : Nat) : a * 1 = a := Nat.mul_one a
theorem zadd (a : Nat) : 0 + a = a := Nat.zero_add a
theorem up_same (f : Nat → Int) (k : Nat) (x : Int) : upN f k x k = x := by simp [upN]
theorem up_up (f : Nat → Int) (k : Nat) (x y : Int) : upN (upN f k x) k y = upN f k y := by funext j; simp only [upN]; split <;> rfl
theorem cons_app (a : SV) (l m : List SV) : (a :: l) ++ m = a :: (l ++ m) := rfl
theorem app_nil' (l : List SV) : l ++ [] = l := List.append_nil l
theorem take_0 (l : List SV) : List.take 0 l = [] := rfl
theorem drop_0 (l : List SV) : List.drop 0 l = l := rfl
theorem wf_0 (x : Wd) : wf x 0 = .val (.int .i64 x.a) := rfl
theorem wf_1 (x : Wd) : wf x 1 = .val (.int .i64 x.b) := rfl
theorem wf_2 (x : Wd) : wf x 2 = .val (.int .i64 x.k) := rfl
theorem rf_0 (n : Int) (m : Nat) (w : Nat → Wd) : rf n m w 0 = .val (.int .i64 n) := rfl
theorem rf_1 (n : Int) (m : Nat) (w : Nat → Wd) : rf n m w 1 = .arr false false m 3 (fun i j => wf (w i) j) := rfl
theorem pf_j (f : Nat → Int) (j : Nat) : pf f j = .val (.int .i64 (f j)) := rfl
def QV :=
 And.intro @Go.He.wf_0 <|
 And.intro @Go.He.wf_1 <|
 And.intro @Go.He.wf_2 <|
 And.intro @Go.He.rf_0 <|
 And.intro @Go.He.rf_1 <|
 And.intro @Go.He.pf_j <|
 And.intro @Go.He.pl_set <|
 And.intro @Go.He.pl_len <|
 And.intro @Go.He.pl_take <|
 And.intro @Go.He.pl_drop <|
 And.intro @Go.He.pl_one <|
 And.intro @Go.He.pl_fit <|
 And.intro @Go.He.pl_eq <|
 And.intro @Go.He.pl_sub <|
 And.intro @Go.He.pl_old <|
 And.intro @Go.He.pl_fresh <|
 And.intro @Go.He.pl_wk <|
 And.intro @Go.He.wf_sub <|
 And.intro @Go.He.wf_old <|
 And.intro @Go.He.wf_fresh <|
 And.intro @Go.He.wf_wk <|
 And.intro @Go.He.rf_sub <|
 And.intro @Go.He.rf_old <|
 And.intro @Go.He.rf_wk <|
 And.intro @Go.He.rSl_q100 <|
 And.intro @Go.He.nil_app <|
 And.intro @Go.He.mul_1 <|
 And.intro @Go.He.zadd <|
 And.intro @Go.He.up_same <|
 And.intro @Go.He.up_up <|
 And.intro @Go.He.all2 <|
 And.intro @Go.He.all3 <|
 And.intro @Go.He.cons_app <|
 And.intro @Go.He.app_nil' <|
 And.intro @Go.He.take_0 <|
 @Go.He.drop_0
def QW := And.intro QV <| And.intro @psv.eq_1 <| And.intro @rsv.eq_1 <| And.intro @pref.eq_1 <| And.intro @B.eq_1 <| And.intro @I.eq_1 <| And.intro @by2 <| And.intro RZ <| And.intro @eq_self.{1} TY
def QX := And.intro QV <| And.intro @psv.eq_1 <| And.intro @rsv.eq_1 <| And.intro @pref.eq_1 <| And.intro @wag.eq_1 <| And.intro @wsv.eq_1 <| And.intro @ints.eq_1 <| And.intro @arrs.eq_1 <| And.intro @I.eq_1 @B.eq_1
end Go.He
end
section
set_option linter.unusedSimpArgs false
set_option linter.unusedVariables false
set_option linter.defProp false
set_option maxRecDepth 100000
set_option maxHeartbeats 16000000
namespace Go.He
open Go.Proofs
open Go.Sx
def fstI (b : Nat → Bool) (i : Nat) : Nat → Int
 | 0 => -1
 | k + 1 => if b i = true then i else fstI b (i + 1) k
theorem fstI_lt (b : Nat → Bool) : ∀ (k i : Nat), fstI b i k < 0 ↔ ∀ j, i ≤ j → j < i + k → b j = false
 | 0, i => by simp [fstI]; intro j h1 h2; omega
 | k + 1, i => by
  simp only [fstI]
  split
  ·rename_i h
   constructor
   ·intro h'; omega
   ·intro h'; have := h' i (by omega) (by omega); rw [h] at this; cases this
  ·rename_i h
   rw [fstI_lt b k (i + 1)]
   constructor
   ·intro h' j h1 h2
    by_cases e : j = i
    ·subst e; simpa using h
    ·exact h' j (by omega) (by omega)
   ·intro h' j h1 h2; exact h' j (by omega) (by omega)
def anyI (b : Nat → Bool) (m : Nat) : Prop := ∃ i, i < m ∧ b i = true
instance (b : Nat → Bool) (m : Nat) : Decidable (anyI b m) := by unfold anyI; infer_instance
theorem anyI_iff (b : Nat → Bool) (m : Nat) : (0 ≤ fstI b 0 m) ↔ anyI b m := by
 have h := fstI_lt b m 0
 constructor
 ·intro h0
  refine Classical.byContradiction fun hc => ?_
  have : fstI b 0 m < 0 := h.2 fun j _ hj => by
   cases e : b j with
   | false => rfl
   | true => exact absurd ⟨j, by omega, e⟩ hc
  omega
 ·rintro ⟨i, hi, hb⟩
  refine Int.not_lt.1 fun hc => ?_
  have := h.1 hc i (Nat.zero_le _) (by omega)
  rw [hb] at this; cases this
theorem c90 (m : Nat) (u : Nat → Int) (g : Nat) (caps : List SV) (ho : OldL caps) (b : Nat → Bool) (hm : m ≤ 1000000) (hg : ∀ i, i < m → Contract Try.prog g (.val (.int .i64 (u i)) :: caps) (B (b i))) : Contract Try.prog 90 [ints m u, .fn (.func g) [] caps] (I (fstI b 0 m)) := by
 refine contract_of Try.func90 rfl (by kernel_rfl) follows (by kernel_rfl) _ _ (by rw [Try.ntmps90]; simp) (by simp [OldL, Old, QV, ints, wsv, I, ho]) ?_
 conv => arg 4; unfold ints
 (simp -dsimp only [↓RP, RQ, Nat.reduceMul, reduceIte, reduceCtorEq, Nat.reduceAdd, Nat.reduceEqDiff, Nat.reduceLT, Nat.reduceLeDiff, TY, Try.results90])
 refine loop_vc (fun i => i ≤ m ∧ fstI b 0 m = fstI b i (m - i)) (fun i => ⟨[(0, .arr false false m 1 (fun i _ => .val (.int .i64 (u i)))), (1, .fn (.func g) [] caps), (7, .val (.int .i64 m)), (8, .val (.int .i64 i))], [], 0⟩) (fun i => m - i) 0 ⟨Nat.zero_le _, rfl⟩ (weak [] [] ?_ ?_ ?_) fun i hi => ?_
 ·(simp -dsimp only [↓RP, RQ, Nat.reduceMul, reduceIte, reduceCtorEq, Nat.reduceAdd, Nat.reduceEqDiff, Nat.reduceLT, Nat.reduceLeDiff, QV]); all_goals (try simp [wkL_refl caps ho, QV])
 iterate 2 focus (simp -dsimp only [↓RP, RQ, Nat.reduceMul, reduceIte, reduceCtorEq, Nat.reduceAdd, Nat.reduceEqDiff, Nat.reduceLT, Nat.reduceLeDiff, QV])
 obtain ⟨hi, he⟩ := hi
 have e1 : ∀ k, m - i = k + 1 → fstI b i (m - i) = if b i = true then (i : Int) else fstI b (i + 1) k := fun k hk => by rw [hk]; rfl
 (repeat' (first | with_reducible (first | apply splitVC_d <;> intro _ | apply splitVC <;> intro _) | ((with_reducible refine And.intro ?_ ?_); focus (first | exact True.intro | omega | (simp only [InK, ne_eq, and_true, true_and]; omega) | trivial)) | (simp -dsimp only [↓RP, RQ, Nat.reduceMul, reduceIte, reduceCtorEq, Nat.reduceAdd, Nat.reduceEqDiff, Nat.reduceLT, Nat.reduceLeDiff, QW, Try.results90])))
 ·rename_i hlt
  have hlt : i < m := by omega
  have e2 := e1 (m - (i + 1)) (by omega)
  refine callVC (hg i hlt) (by (simp -dsimp only [↓RP, RQ, Nat.reduceMul, reduceIte, reduceCtorEq, Nat.reduceAdd, Nat.reduceEqDiff, Nat.reduceLT, Nat.reduceLeDiff, QV, I]); all_goals (try simp [subL_refl caps ho, QV])) (by (simp -dsimp only [↓RP, RQ, Nat.reduceMul, reduceIte, reduceCtorEq, Nat.reduceAdd, Nat.reduceEqDiff, Nat.reduceLT, Nat.reduceLeDiff, B])) ?_
  (repeat' (first | with_reducible (first | apply splitVC_d <;> intro _ | apply splitVC <;> intro _) | ((with_reducible refine And.intro ?_ ?_); focus (first | exact True.intro | omega | (simp only [InK, ne_eq, and_true, true_and]; omega) | trivial)) | (simp -dsimp only [↓RP, RQ, Nat.reduceMul, reduceIte, reduceCtorEq, Nat.reduceAdd, Nat.reduceEqDiff, Nat.reduceLT, Nat.reduceLeDiff, QW, Try.results90])))
  ·rename_i h
   refine I_eq ?_
   rw [he, e2, if_pos h]
  ·rename_i h1
   refine ⟨i + 1, ⟨by omega, ?_⟩, by omega, weak [] [] ?_ ?_ ?_⟩
   ·rw [he, e2, if_neg (by simp [h1])]
   ·(simp -dsimp only [↓RP, RQ, Nat.reduceMul, reduceIte, reduceCtorEq, Nat.reduceAdd, Nat.reduceEqDiff, Nat.reduceLT, Nat.reduceLeDiff, QV]); all_goals (try simp [wkL_refl caps ho, QV])
   iterate 2 focus (simp -dsimp only [↓RP, RQ, Nat.reduceMul, reduceIte, reduceCtorEq, Nat.reduceAdd, Nat.reduceEqDiff, Nat.reduceLT, Nat.reduceLeDiff, QV])
 ·rename_i hlt
  refine I_eq ?_
  have : m - i = 0 := by omega
  rw [he, this]; rfl
theorem c83 (m : Nat) (w : Nat → Wd) (g : Nat) (caps : List SV) (ho : OldL caps) (b : Nat → Bool) (hm : m ≤ 1000000) (hg : ∀ i, i < m → Contract Try.prog g (.agg [.val (.int .i64 (w i).a), .val (.int .i64 (w i).b), .val (.int .i64 (w i).k)] :: caps) (B (b i))) : Contract Try.prog 83 [wsv m w, .fn (.func g) [] caps] (I (fstI b 0 m)) := by
 refine contract_of Try.func83 rfl (by kernel_rfl) follows (by kernel_rfl) _ _ (by rw [Try.ntmps83]; simp) (by simp [OldL, Old, QV, ints, wsv, I, ho]) ?_
 conv => arg 4; unfold wsv
 (simp -dsimp only [↓RP, RQ, Nat.reduceMul, reduceIte, reduceCtorEq, Nat.reduceAdd, Nat.reduceEqDiff, Nat.reduceLT, Nat.reduceLeDiff, TY, Try.results83])
 refine loop_vc (fun i => i ≤ m ∧ fstI b 0 m = fstI b i (m - i)) (fun i => ⟨[(0, .arr false false m 3 (fun i j => wf (w i) j)), (1, .fn (.func g) [] caps), (7, .val (.int .i64 m)), (8, .val (.int .i64 i))], [], 0⟩) (fun i => m - i) 0 ⟨Nat.zero_le _, rfl⟩ (weak [] [] ?_ ?_ ?_) fun i hi => ?_
 ·(simp -dsimp only [↓RP, RQ, Nat.reduceMul, reduceIte, reduceCtorEq, Nat.reduceAdd, Nat.reduceEqDiff, Nat.reduceLT, Nat.reduceLeDiff, QV]); all_goals (try simp [wkL_refl caps ho, QV])
 iterate 2 focus (simp -dsimp only [↓RP, RQ, Nat.reduceMul, reduceIte, reduceCtorEq, Nat.reduceAdd, Nat.reduceEqDiff, Nat.reduceLT, Nat.reduceLeDiff, QV])
 obtain ⟨hi, he⟩ := hi
 have e1 : ∀ k, m - i = k + 1 → fstI b i (m - i) = if b i = true then (i : Int) else fstI b (i + 1) k := fun k hk => by rw [hk]; rfl
 (repeat' (first | with_reducible (first | apply splitVC_d <;> intro _ | apply splitVC <;> intro _) | ((with_reducible refine And.intro ?_ ?_); focus (first | exact True.intro | omega | (simp only [InK, ne_eq, and_true, true_and]; omega) | trivial)) | (simp -dsimp only [↓RP, RQ, Nat.reduceMul, reduceIte, reduceCtorEq, Nat.reduceAdd, Nat.reduceEqDiff, Nat.reduceLT, Nat.reduceLeDiff, QW, Try.results83])))
 ·rename_i hlt
  have hlt : i < m := by omega
  have e2 := e1 (m - (i + 1)) (by omega)
  refine callVC (hg i hlt) (by (simp -dsimp only [↓RP, RQ, Nat.reduceMul, reduceIte, reduceCtorEq, Nat.reduceAdd, Nat.reduceEqDiff, Nat.reduceLT, Nat.reduceLeDiff, QV, I]); all_goals (try simp [subL_refl caps ho, QV])) (by (simp -dsimp only [↓RP, RQ, Nat.reduceMul, reduceIte, reduceCtorEq, Nat.reduceAdd, Nat.reduceEqDiff, Nat.reduceLT, Nat.reduceLeDiff, B])) ?_
  (repeat' (first | with_reducible (first | apply splitVC_d <;> intro _ | apply splitVC <;> intro _) | ((with_reducible refine And.intro ?_ ?_); focus (first | exact True.intro | omega | (simp only [InK, ne_eq, and_true, true_and]; omega) | trivial)) | (simp -dsimp only [↓RP, RQ, Nat.reduceMul, reduceIte, reduceCtorEq, Nat.reduceAdd, Nat.reduceEqDiff, Nat.reduceLT, Nat.reduceLeDiff, QW, Try.results83])))
  ·rename_i h
   refine I_eq ?_
   rw [he, e2, if_pos h]
  ·rename_i h1
   refine ⟨i + 1, ⟨by omega, ?_⟩, by omega, weak [] [] ?_ ?_ ?_⟩
   ·rw [he, e2, if_neg (by simp [h1])]
   ·(simp -dsimp only [↓RP, RQ, Nat.reduceMul, reduceIte, reduceCtorEq, Nat.reduceAdd, Nat.reduceEqDiff, Nat.reduceLT, Nat.reduceLeDiff, QV]); all_goals (try simp [wkL_refl caps ho, QV])
   iterate 2 focus (simp -dsimp only [↓RP, RQ, Nat.reduceMul, reduceIte, reduceCtorEq, Nat.reduceAdd, Nat.reduceEqDiff, Nat.reduceLT, Nat.reduceLeDiff, QV])
 ·rename_i hlt
  refine I_eq ?_
  have : m - i = 0 := by omega
  rw [he, this]; rfl
theorem c66 (m : Nat) (u : Nat → Int) (g : Nat) (caps : List SV) (ho : OldL caps) (b : Nat → Bool) (hm : m ≤ 1000000) (hg : ∀ i, i < m → Contract Try.prog g (.val (.int .i64 (u i)) :: caps) (B (b i))) : Contract Try.prog 66 [ints m u, .fn (.func g) [] caps] (B (decide (anyI b m))) := by
 refine contract_of Try.func66 rfl (by kernel_rfl) follows (by kernel_rfl) _ _ (by rw [Try.ntmps66]; simp) (by simp [OldL, Old, QV, ints, wsv, I, ho]) ?_
 (simp -dsimp only [↓RP, RQ, Nat.reduceMul, reduceIte, reduceCtorEq, Nat.reduceAdd, Nat.reduceEqDiff, Nat.reduceLT, Nat.reduceLeDiff, TY, QV, Try.results66])
 refine callVC (c90 m u g caps ho b hm hg) (by (simp -dsimp only [↓RP, RQ, Nat.reduceMul, reduceIte, reduceCtorEq, Nat.reduceAdd, Nat.reduceEqDiff, Nat.reduceLT, Nat.reduceLeDiff, QV, ints, wsv]); all_goals (try simp [subL_refl caps ho, QV])) (by (simp -dsimp only [↓RP, RQ, Nat.reduceMul, reduceIte, reduceCtorEq, Nat.reduceAdd, Nat.reduceEqDiff, Nat.reduceLT, Nat.reduceLeDiff, I])) ?_
 (repeat' (first | with_reducible refine splitVC_d (fun _ => ?_) (fun _ => ?_) | ((with_reducible refine And.intro ?_ ?_); focus (first | exact True.intro | omega | (simp only [InK, ne_eq, and_true, true_and]; omega) | trivial)) | simp -dsimp only [↓RP, RQ, Nat.reduceMul, reduceIte, reduceCtorEq, Nat.reduceAdd, Nat.reduceEqDiff, Nat.reduceLT, Nat.reduceLeDiff, I, B, QV, TY, Try.results66]))
 refine B_eq ?_
 rw [Bool.eq_iff_iff]; simp [← anyI_iff]
theorem c52 (m : Nat) (w : Nat → Wd) (g : Nat) (caps : List SV) (ho : OldL caps) (b : Nat → Bool) (hm : m ≤ 1000000) (hg : ∀ i, i < m → Contract Try.prog g (.agg [.val (.int .i64 (w i).a), .val (.int .i64 (w i).b), .val (.int .i64 (w i).k)] :: caps) (B (b i))) : Contract Try.prog 52 [wsv m w, .fn (.func g) [] caps] (B (decide (anyI b m))) := by
 refine contract_of Try.func52 rfl (by kernel_rfl) follows (by kernel_rfl) _ _ (by rw [Try.ntmps52]; simp) (by simp [OldL, Old, QV, ints, wsv, I, ho]) ?_
 (simp -dsimp only [↓RP, RQ, Nat.reduceMul, reduceIte, reduceCtorEq, Nat.reduceAdd, Nat.reduceEqDiff, Nat.reduceLT, Nat.reduceLeDiff, TY, QV, Try.results52])
 refine callVC (c83 m w g caps ho b hm hg) (by (simp -dsimp only [↓RP, RQ, Nat.reduceMul, reduceIte, reduceCtorEq, Nat.reduceAdd, Nat.reduceEqDiff, Nat.reduceLT, Nat.reduceLeDiff, QV, ints, wsv]); all_goals (try simp [subL_refl caps ho, QV])) (by (simp -dsimp only [↓RP, RQ, Nat.reduceMul, reduceIte, reduceCtorEq, Nat.reduceAdd, Nat.reduceEqDiff, Nat.reduceLT, Nat.reduceLeDiff, I])) ?_
 (repeat' (first | with_reducible refine splitVC_d (fun _ => ?_) (fun _ => ?_) | ((with_reducible refine And.intro ?_ ?_); focus (first | exact True.intro | omega | (simp only [InK, ne_eq, and_true, true_and]; omega) | trivial)) | simp -dsimp only [↓RP, RQ, Nat.reduceMul, reduceIte, reduceCtorEq, Nat.reduceAdd, Nat.reduceEqDiff, Nat.reduceLT, Nat.reduceLeDiff, I, B, QV, TY, Try.results52]))
 refine B_eq ?_
 rw [Bool.eq_iff_iff]; simp [← anyI_iff]
def cap2 (lo hi : Int) : List SV := [.ref false 1 (fun _ => .val (.int .i64 lo)), .ref false 1 (fun _ => .val (.int .i64 hi))]
theorem cap2_old (lo hi : Int) : OldL (cap2 lo hi) := by simp [cap2, OldL, Old]
theorem c82 (n lo hi : Int) : Contract Try.prog 82 (.val (.int .i64 n) :: cap2 lo hi) (B (decide (n < lo) || decide (hi < n))) := by
 refine contract_of Try.func82 rfl (by kernel_rfl) follows (by kernel_rfl) _ _ (by rw [Try.ntmps82]; simp [cap2]) (by simp [OldL, Old, cap2]) ?_
 unfold cap2 B
 (repeat' (first | with_reducible refine splitVC_d (fun _ => ?_) (fun _ => ?_) | ((with_reducible refine And.intro ?_ ?_); focus (first | exact True.intro | omega | (simp only [InK, ne_eq, and_true, true_and]; omega) | trivial)) | simp -dsimp only [↓RP, RQ, Nat.reduceMul, reduceIte, reduceCtorEq, Nat.reduceAdd, Nat.reduceEqDiff, Nat.reduceLT, Nat.reduceLeDiff, TY, Try.results82]))
 all_goals (refine B_eq ?_; rw [Bool.eq_iff_iff]; simp; omega)
def allIn (u : Nat → Int) (m : Nat) (lo hi : Int) : Prop := ∀ i, i < m → lo ≤ u i ∧ u i ≤ hi
instance (u : Nat → Int) (m : Nat) (lo hi : Int) : Decidable (allIn u m lo hi) := by unfold allIn; infer_instance
theorem allIn_iff (u : Nat → Int) (m : Nat) (lo hi : Int) : anyI (fun i => decide (u i < lo) || decide (hi < u i)) m ↔ ¬ allIn u m lo hi := by
 constructor
 ·rintro ⟨i, h1, h2⟩ h
  have := h i h1
  simp at h2; omega
 ·intro h
  refine Classical.byContradiction fun hc => h fun i hi => ?_
  refine Classical.byContradiction fun hd => hc ⟨i, hi, ?_⟩
  simp; omega
theorem c51 (m : Nat) (u : Nat → Int) (lo hi : Int) (hm : m ≤ 1000000) : Contract Try.prog 51 [I lo, I hi, ints m u] (B (decide (allIn u m lo hi))) := by
 refine contract_of Try.func51 rfl (by kernel_rfl) follows (by kernel_rfl) _ _ (by rw [Try.ntmps51]; simp) (by simp [OldL, Old, QV, psv, rsv, pref, wsv, ints, arrs, I, B]) ?_
 unfold I B
 (simp -dsimp only [↓RP, RQ, Nat.reduceMul, reduceIte, reduceCtorEq, Nat.reduceAdd, Nat.reduceEqDiff, Nat.reduceLT, Nat.reduceLeDiff, TY, Try.results51])
 refine callVC (c66 m u 82 (cap2 lo hi) (cap2_old lo hi) (fun i => decide (u i < lo) || decide (hi < u i)) hm fun i _ => c82 (u i) lo hi) (by (simp -dsimp only [↓RP, RQ, Nat.reduceMul, reduceIte, reduceCtorEq, Nat.reduceAdd, Nat.reduceEqDiff, Nat.reduceLT, Nat.reduceLeDiff, QV, ints, cap2, I]); all_goals (try simp [cap2, ints])) (by (simp -dsimp only [↓RP, RQ, Nat.reduceMul, reduceIte, reduceCtorEq, Nat.reduceAdd, Nat.reduceEqDiff, Nat.reduceLT, Nat.reduceLeDiff, B])) ?_
 (repeat' (first | with_reducible refine splitVC_d (fun _ => ?_) (fun _ => ?_) | ((with_reducible refine And.intro ?_ ?_); focus (first | exact True.intro | omega | (simp only [InK, ne_eq, and_true, true_and]; omega) | trivial)) | simp -dsimp only [↓RP, RQ, Nat.reduceMul, reduceIte, reduceCtorEq, Nat.reduceAdd, Nat.reduceEqDiff, Nat.reduceLT, Nat.reduceLeDiff, B, TY, Try.results51]))
 refine B_eq ?_
 rw [Bool.eq_iff_iff]
 have := allIn_iff u m lo hi
 by_cases h : allIn u m lo hi
 ·have h' : ¬ anyI (fun i => decide (u i < lo) || decide (hi < u i)) m := fun x => this.1 x h
  rw [decide_eq_true h, decide_eq_false h']; simp
 ·rw [decide_eq_false h, decide_eq_true (this.2 h)]; simp
theorem c51_1 (x lo hi : Int) : Contract Try.prog 51 [I lo, I hi, ints 1 (fun _ => x)] (B (decide (lo ≤ x ∧ x ≤ hi))) := by
 have := c51 1 (fun _ => x) lo hi (by omega)
 have e : allIn (fun _ => x) 1 lo hi ↔ (lo ≤ x ∧ x ≤ hi) := ⟨fun h => h 0 (by omega), fun h i _ => h⟩
 simpa [e] using this
theorem c51_2 (x y lo hi : Int) : Contract Try.prog 51 [I lo, I hi, ints 2 (fun i => if i = 0 then x else y)] (B (decide ((lo ≤ x ∧ x ≤ hi) ∧ (lo ≤ y ∧ y ≤ hi)))) := by
 have := c51 2 (fun i => if i = 0 then x else y) lo hi (by omega)
 have e : allIn (fun i => if i = 0 then x else y) 2 lo hi ↔ ((lo ≤ x ∧ x ≤ hi) ∧ (lo ≤ y ∧ y ≤ hi)) := ⟨fun h => ⟨by have := h 0 (by omega); simpa using this, by have := h 1 (by omega); simpa using this⟩, fun h i hi => by
  by_cases e : i = 0
  ·subst e; simpa using h.1
  ·simpa [e] using h.2⟩
 simpa [e] using this
end Go.He
end
section
set_option linter.unusedSimpArgs false
set_option linter.unusedVariables false
set_option linter.defProp false
set_option maxRecDepth 100000
set_option maxHeartbeats 16000000
namespace Go.He
open Go.Proofs
open Go.Sx
def okW (n : Int) (x : Wd) : Prop := (0 ≤ x.a ∧ x.a < n) ∧ (0 ≤ x.b ∧ x.b < n) ∧ x.a ≠ x.b ∧ 0 ≤ x.k ∧ x.k ≤ 2
instance (n : Int) (x : Wd) : Decidable (okW n x) := by unfold okW; infer_instance
def badW (n : Int) (m : Nat) (w : Nat → Wd) : Prop := anyI (fun i => !decide (okW n (w i))) m
instance (n : Int) (m : Nat) (w : Nat → Wd) : Decidable (badW n m w) := by unfold badW; infer_instance
theorem says_iff {x : Wd} {f : Int → Int} : says x f ↔ (x.k = 0 ∧ f x.a < f x.b) ∨ (x.k = 1 ∧ f x.a = f x.b) ∨ (x.k ≠ 0 ∧ x.k ≠ 1 ∧ f x.a ≤ f x.b) := by
 unfold says; split
 ·omega
 ·split <;> omega
def ckR (n : Int) (m : Nat) (w : Nat → Wd) : Int := if ¬ (2 ≤ n ∧ n ≤ 5) then 3 else if 12 < m then 6 else if badW n m w then 2 else 0
theorem ckR_ok {n : Int} {m : Nat} {w : Nat → Wd} (h : ckR n m w = 0) : 2 ≤ n ∧ n ≤ 5 ∧ m ≤ 12 ∧ ∀ i, i < m → okW n (w i) := by
 unfold ckR at h
 split at h
 ·omega
 ·rename_i h1
  split at h
  ·omega
  ·rename_i h2
   split at h
   ·omega
   ·rename_i h3
    refine ⟨by omega, by omega, by omega, fun i hi => Classical.byContradiction fun hc => h3 ⟨i, hi, ?_⟩⟩
    simp [hc]
theorem ckR_fit {n : Nat} {m : Nat} {w : Nat → Wd} (h : ckR n m w = 0) : Fit w m n :=
 have ⟨_, _, _, h4⟩ := ckR_ok h
 ⟨fun i hi => (h4 i hi).1, fun i hi => (h4 i hi).2.1, fun i hi => (h4 i hi).2.2.1, fun i hi => (h4 i hi).2.2.2⟩
theorem c54 (n : Int) (h2 : 2 ≤ n) (h5 : n ≤ 5) (m : Nat) (w : Nat → Wd) (x : Wd) : Contract Try.prog 54 [rsv n m w, wag x] (B (decide (okW n x))) := by
 refine contract_of Try.func54 rfl (by kernel_rfl) follows (by kernel_rfl) _ _ (by rw [Try.ntmps54]; simp) (by simp [OldL, Old, QV, rsv, wag]) ?_
 unfold rsv wag B
 (repeat' (first | with_reducible (first | apply splitVC_d <;> intro _ | apply splitVC <;> intro _) | ((with_reducible refine And.intro ?_ ?_); focus (first | exact True.intro | omega | (simp only [InK, ne_eq, and_true, true_and]; omega) | trivial)) | (simp -dsimp only [↓RP, RQ, Nat.reduceMul, reduceIte, reduceCtorEq, Nat.reduceAdd, Nat.reduceEqDiff, Nat.reduceLT, Nat.reduceLeDiff, QW, Try.results54])))
 ·(refine B_eq ?_; rw [Bool.eq_iff_iff]; simp only [decide_eq_true_eq, Bool.false_eq_true, reduceCtorEq, iff_true, true_iff, iff_false, false_iff, Bool.not_eq_true', decide_eq_false_iff_not, true_and, and_true]; (try simp only [okW]); omega)
 refine callVC (c51_2 x.a x.b 0 (n - 1)) ?_ ?_ ?_; iterate 2 focus ((simp -dsimp only [↓RP, RQ, Nat.reduceMul, reduceIte, reduceCtorEq, Nat.reduceAdd, Nat.reduceEqDiff, Nat.reduceLT, Nat.reduceLeDiff, QX]); all_goals (try simp [QV, Go.Sx.Sub, Go.Sx.SubL]); all_goals (try exact lit2 _ _))
 (repeat' (first | with_reducible (first | apply splitVC_d <;> intro _ | apply splitVC <;> intro _) | ((with_reducible refine And.intro ?_ ?_); focus (first | exact True.intro | omega | (simp only [InK, ne_eq, and_true, true_and]; omega) | trivial)) | (simp -dsimp only [↓RP, RQ, Nat.reduceMul, reduceIte, reduceCtorEq, Nat.reduceAdd, Nat.reduceEqDiff, Nat.reduceLT, Nat.reduceLeDiff, QW, Try.results54])))
 ·refine callVC (c51_1 x.k 0 2) ?_ ?_ ?_; iterate 2 focus ((simp -dsimp only [↓RP, RQ, Nat.reduceMul, reduceIte, reduceCtorEq, Nat.reduceAdd, Nat.reduceEqDiff, Nat.reduceLT, Nat.reduceLeDiff, QX]); all_goals (try simp [QV, Go.Sx.Sub, Go.Sx.SubL]); all_goals (try exact lit2 _ _))
  (repeat' (first | with_reducible (first | apply splitVC_d <;> intro _ | apply splitVC <;> intro _) | ((with_reducible refine And.intro ?_ ?_); focus (first | exact True.intro | omega | (simp only [InK, ne_eq, and_true, true_and]; omega) | trivial)) | (simp -dsimp only [↓RP, RQ, Nat.reduceMul, reduceIte, reduceCtorEq, Nat.reduceAdd, Nat.reduceEqDiff, Nat.reduceLT, Nat.reduceLeDiff, QW, Try.results54])))
  (refine B_eq ?_; rw [Bool.eq_iff_iff]; simp only [decide_eq_true_eq, Bool.false_eq_true, reduceCtorEq, iff_true, true_iff, iff_false, false_iff, Bool.not_eq_true', decide_eq_false_iff_not, true_and, and_true]; (try simp only [okW]); omega)
 ·(refine B_eq ?_; rw [Bool.eq_iff_iff]; simp only [decide_eq_true_eq, Bool.false_eq_true, reduceCtorEq, iff_true, true_iff, iff_false, false_iff, Bool.not_eq_true', decide_eq_false_iff_not, true_and, and_true]; (try simp only [okW]); omega)
theorem c55 (n : Int) (m : Nat) (w : Nat → Wd) (x : Wd) : Contract Try.prog 55 [rsv n m w, wag x] (B (decide (okW n x))) := by
 refine contract_of Try.func55 rfl (by kernel_rfl) follows (by kernel_rfl) _ _ (by rw [Try.ntmps55]; simp) (by simp [OldL, Old, QV, rsv, wag]) ?_
 unfold rsv wag B
 (repeat' (first | with_reducible (first | apply splitVC_d <;> intro _ | apply splitVC <;> intro _) | ((with_reducible refine And.intro ?_ ?_); focus (first | exact True.intro | omega | (simp only [InK, ne_eq, and_true, true_and]; omega) | trivial)) | (simp -dsimp only [↓RP, RQ, Nat.reduceMul, reduceIte, reduceCtorEq, Nat.reduceAdd, Nat.reduceEqDiff, Nat.reduceLT, Nat.reduceLeDiff, QW, Try.results55])))
 all_goals (refine B_eq ?_; rw [Bool.eq_iff_iff]; simp only [decide_eq_true_eq, Bool.false_eq_true, reduceCtorEq, iff_true, true_iff, iff_false, false_iff, Bool.not_eq_true', decide_eq_false_iff_not, true_and, and_true]; (try simp only [okW]); omega)
theorem c53 (n : Int) (h2 : 2 ≤ n) (h5 : n ≤ 5) (m : Nat) (w : Nat → Wd) (x : Wd) : Contract Try.prog 53 [wag x, pref n m w] (B (!decide (okW n x))) := by
 refine contract_of Try.func53 rfl (by kernel_rfl) follows (by kernel_rfl) _ _ (by rw [Try.ntmps53]; simp) (by simp [OldL, Old, QV, pref, wag]) ?_
 unfold pref wag B
 (repeat' (first | with_reducible (first | apply splitVC_d <;> intro _ | apply splitVC <;> intro _) | ((with_reducible refine And.intro ?_ ?_); focus (first | exact True.intro | omega | (simp only [InK, ne_eq, and_true, true_and]; omega) | trivial)) | (with_reducible refine callVC (c54 n h2 h5 m w x) ?_ ?_ ?_; iterate 2 focus ((simp -dsimp only [↓RP, RQ, Nat.reduceMul, reduceIte, reduceCtorEq, Nat.reduceAdd, Nat.reduceEqDiff, Nat.reduceLT, Nat.reduceLeDiff, QX]); all_goals (try simp [QV, Go.Sx.Sub, Go.Sx.SubL]); all_goals (try exact lit2 _ _))) | (simp -dsimp only [↓RP, RQ, Nat.reduceMul, reduceIte, reduceCtorEq, Nat.reduceAdd, Nat.reduceEqDiff, Nat.reduceLT, Nat.reduceLeDiff, wag, QW, Try.results53])))
theorem c19 (n : Int) (m : Nat) (w : Nat → Wd) (hm : m ≤ 1000000) : Contract Try.prog 19 [rsv n m w] (I (ckR n m w)) := by
 refine contract_of Try.func19 rfl (by kernel_rfl) follows (by kernel_rfl) _ _ (by rw [Try.ntmps19]; simp) (by simp [OldL, Old, QV, rsv, wag]) ?_
 unfold rsv I
 (repeat' (first | with_reducible (first | apply splitVC_d <;> intro _ | apply splitVC <;> intro _) | ((with_reducible refine And.intro ?_ ?_); focus (first | exact True.intro | omega | (simp only [InK, ne_eq, and_true, true_and]; omega) | trivial)) | (simp -dsimp only [↓RP, RQ, Nat.reduceMul, reduceIte, reduceCtorEq, Nat.reduceAdd, Nat.reduceEqDiff, Nat.reduceLT, Nat.reduceLeDiff, QW, Try.results19])))
 refine callVC (c51_1 n 2 5) ?_ ?_ ?_; iterate 2 focus ((simp -dsimp only [↓RP, RQ, Nat.reduceMul, reduceIte, reduceCtorEq, Nat.reduceAdd, Nat.reduceEqDiff, Nat.reduceLT, Nat.reduceLeDiff, QX]); all_goals (try simp [QV, Go.Sx.Sub, Go.Sx.SubL]); all_goals (try exact lit2 _ _))
 (repeat' (first | with_reducible (first | apply splitVC_d <;> intro _ | apply splitVC <;> intro _) | ((with_reducible refine And.intro ?_ ?_); focus (first | exact True.intro | omega | (simp only [InK, ne_eq, and_true, true_and]; omega) | trivial)) | (simp -dsimp only [↓RP, RQ, Nat.reduceMul, reduceIte, reduceCtorEq, Nat.reduceAdd, Nat.reduceEqDiff, Nat.reduceLT, Nat.reduceLeDiff, QW, Try.results19])))
 ·rename_i h1 h2
  refine I_eq ?_
  unfold ckR; rw [if_neg (by omega), if_pos (by omega)]
 ·rename_i h1 h2
  refine callVC (c52 m w 53 [pref n m w] (by simp [OldL, Old, QV, pref]) (fun i => !decide (okW n (w i))) hm fun i _ => c53 n (by omega) (by omega) m w (w i)) (by (simp -dsimp only [↓RP, RQ, Nat.reduceMul, reduceIte, reduceCtorEq, Nat.reduceAdd, Nat.reduceEqDiff, Nat.reduceLT, Nat.reduceLeDiff, QV, wsv, pref]); all_goals (try simp [QV])) (by (simp -dsimp only [↓RP, RQ, Nat.reduceMul, reduceIte, reduceCtorEq, Nat.reduceAdd, Nat.reduceEqDiff, Nat.reduceLT, Nat.reduceLeDiff, QX]); all_goals (try simp [QV])) ?_
  (repeat' (first | with_reducible (first | apply splitVC_d <;> intro _ | apply splitVC <;> intro _) | ((with_reducible refine And.intro ?_ ?_); focus (first | exact True.intro | omega | (simp only [InK, ne_eq, and_true, true_and]; omega) | trivial)) | (simp -dsimp only [↓RP, RQ, Nat.reduceMul, reduceIte, reduceCtorEq, Nat.reduceAdd, Nat.reduceEqDiff, Nat.reduceLT, Nat.reduceLeDiff, QW, Try.results19])))
  ·rename_i h3
   refine I_eq ?_
   unfold ckR; rw [if_neg (by omega), if_neg (by omega), if_pos (show badW n m w from h3)]
  ·rename_i h3
   refine I_eq ?_
   unfold ckR; rw [if_neg (by omega), if_neg (by omega), if_neg (show ¬ badW n m w from h3)]
 ·rename_i h
  refine I_eq ?_
  unfold ckR; rw [if_pos h]
theorem c20 (n : Int) (m : Nat) (w : Nat → Wd) (hm : m ≤ 1000000) : Contract Try.prog 20 [rsv n m w] (I (ckR n m w)) := by
 refine contract_of Try.func20 rfl (by kernel_rfl) follows (by kernel_rfl) _ _ (by rw [Try.ntmps20]; simp) (by simp [OldL, Old, QV, rsv, wag]) ?_
 unfold rsv I
 (repeat' (first | with_reducible (first | apply splitVC_d <;> intro _ | apply splitVC <;> intro _) | ((with_reducible refine And.intro ?_ ?_); focus (first | exact True.intro | omega | (simp only [InK, ne_eq, and_true, true_and]; omega) | trivial)) | (simp -dsimp only [↓RP, RQ, Nat.reduceMul, reduceIte, reduceCtorEq, Nat.reduceAdd, Nat.reduceEqDiff, Nat.reduceLT, Nat.reduceLeDiff, QW, Try.results20])))
 ·rename_i h
  refine I_eq ?_
  unfold ckR; rw [if_pos (by omega)]
 ·rename_i h1 h2
  refine I_eq ?_
  unfold ckR; rw [if_pos (by omega)]
 ·rename_i h1 h2 h3
  refine I_eq ?_
  unfold ckR; rw [if_neg (by omega), if_pos (by omega)]
 rename_i h1 h2 h3
 refine loop_vc (fun (i : Nat) => i ≤ m ∧ ∀ j, j < i → okW n (w j)) (fun i => ⟨[(1, .ptr 0 0), (3, .val (.int .i64 i))], [(0, .cells 24 [.val (.int .i64 n), .arr false false m 3 (fun i j => wf (w i) j)])], 20⟩) (fun i => m - i) 0 ⟨Nat.zero_le _, fun j hj => by omega⟩ (weak [] [] ?_ ?_ ?_) fun i hi => ?_
 iterate 3 focus ((simp -dsimp only [↓RP, RQ, Nat.reduceMul, reduceIte, reduceCtorEq, Nat.reduceAdd, Nat.reduceEqDiff, Nat.reduceLT, Nat.reduceLeDiff, QV]); all_goals (try simp [QV]))
 obtain ⟨hi, ha⟩ := hi
 (repeat' (first | with_reducible (first | apply splitVC_d <;> intro _ | apply splitVC <;> intro _) | ((with_reducible refine And.intro ?_ ?_); focus (first | exact True.intro | omega | (simp only [InK, ne_eq, and_true, true_and]; omega) | trivial)) | (with_reducible refine callVC (c55 n m w (w i)) ?_ ?_ ?_; iterate 2 focus ((simp -dsimp only [↓RP, RQ, Nat.reduceMul, reduceIte, reduceCtorEq, Nat.reduceAdd, Nat.reduceEqDiff, Nat.reduceLT, Nat.reduceLeDiff, QX]); all_goals (try simp [QV, Go.Sx.Sub, Go.Sx.SubL]); all_goals (try exact lit2 _ _))) | (simp -dsimp only [↓RP, RQ, Nat.reduceMul, reduceIte, reduceCtorEq, Nat.reduceAdd, Nat.reduceEqDiff, Nat.reduceLT, Nat.reduceLeDiff, wag, QW, Try.results20])))
 ·rename_i h4 h5
  have h5 : okW n (w i) := by simpa using h5
  refine ⟨i + 1, ⟨by omega, fun j hj => ?_⟩, by omega, weak [] [] ?_ ?_ ?_⟩
  ·by_cases e : j = i
   ·subst e; exact h5
   ·exact ha j (by omega)
  iterate 3 focus ((simp -dsimp only [↓RP, RQ, Nat.reduceMul, reduceIte, reduceCtorEq, Nat.reduceAdd, Nat.reduceEqDiff, Nat.reduceLT, Nat.reduceLeDiff, QV]); all_goals (try simp [QV]))
 ·rename_i h4 h5
  have h5 : ¬ okW n (w i) := by simpa using h5
  refine I_eq ?_
  unfold ckR
  rw [if_neg (by omega), if_neg (by omega), if_pos (show badW n m w from ⟨i, by omega, by simp [h5]⟩)]
 ·rename_i h4
  refine I_eq ?_
  unfold ckR
  rw [if_neg (by omega), if_neg (by omega), if_neg (show ¬ badW n m w from fun ⟨j, hj, hb⟩ => by
   have := ha j (by omega)
   simp [this] at hb)]
end Go.He
end
section
set_option linter.unusedSimpArgs false
set_option linter.unusedVariables false
set_option linter.defProp false
set_option maxRecDepth 100000
set_option maxHeartbeats 16000000
namespace Go.He
open Go.Proofs
open Go.Sx
theorem c56 (n : Int) (m : Nat) (w : Nat → Wd) (hm : m ≤ 1000000) (he : ckR n m w = 0) : Contract Try.prog 56 [rsv n m w] (.tup [.ref true 2 (fun j => rf n m w j), I 0]) := by
 refine contract_of Try.func56 rfl (by kernel_rfl) follows (by kernel_rfl) _ _ (by rw [Try.ntmps56]; simp) (by simp [OldL, Old, QV, rsv]) ?_
 unfold rsv I
 have hd : (!decide (ckR n m w = 0)) = false := by rw [he]; rfl
 (repeat' (first | with_reducible (first | apply splitVC_d <;> intro _ | apply splitVC <;> intro _) | ((with_reducible refine And.intro ?_ ?_); focus (first | exact True.intro | omega | (simp only [InK, ne_eq, and_true, true_and]; omega) | trivial)) | (with_reducible refine callVC (c19 n m w hm) ?_ ?_ ?_; iterate 2 focus ((simp -dsimp only [↓RP, RQ, Nat.reduceMul, reduceIte, reduceCtorEq, Nat.reduceAdd, Nat.reduceEqDiff, Nat.reduceLT, Nat.reduceLeDiff, QX]); all_goals (try simp [QV, Go.Sx.Sub, Go.Sx.SubL]); all_goals (try exact lit2 _ _))) | (simp -dsimp only [↓RP, RQ, Nat.reduceMul, reduceIte, reduceCtorEq, Nat.reduceAdd, Nat.reduceEqDiff, Nat.reduceLT, Nat.reduceLeDiff, hd, QW, Try.results56])))
 all_goals simp
theorem c56e (n : Int) (m : Nat) (w : Nat → Wd) (hm : m ≤ 1000000) (he : ckR n m w ≠ 0) : Contract Try.prog 56 [rsv n m w] (.tup [.val (.pointer none), I (ckR n m w)]) := by
 refine contract_of Try.func56 rfl (by kernel_rfl) follows (by kernel_rfl) _ _ (by rw [Try.ntmps56]; simp) (by simp [OldL, Old, QV, rsv]) ?_
 unfold rsv I
 have hd : (!decide (ckR n m w = 0)) = true := by simp [he]
 (repeat' (first | with_reducible (first | apply splitVC_d <;> intro _ | apply splitVC <;> intro _) | ((with_reducible refine And.intro ?_ ?_); focus (first | exact True.intro | omega | (simp only [InK, ne_eq, and_true, true_and]; omega) | trivial)) | (with_reducible refine callVC (c19 n m w hm) ?_ ?_ ?_; iterate 2 focus ((simp -dsimp only [↓RP, RQ, Nat.reduceMul, reduceIte, reduceCtorEq, Nat.reduceAdd, Nat.reduceEqDiff, Nat.reduceLT, Nat.reduceLeDiff, QX]); all_goals (try simp [QV, Go.Sx.Sub, Go.Sx.SubL]); all_goals (try exact lit2 _ _))) | (simp -dsimp only [↓RP, RQ, Nat.reduceMul, reduceIte, reduceCtorEq, Nat.reduceAdd, Nat.reduceEqDiff, Nat.reduceLT, Nat.reduceLeDiff, hd, QW, Try.results56])))
def rkU (f : Nat → Int) (n i j : Nat) : Int := if j < i then rk f n j else 0
theorem rkU_0 (f : Nat → Int) (n : Nat) : rkU f n 0 = fun _ => 0 := by funext j; simp [rkU]
theorem rkU_S (f : Nat → Int) (n i : Nat) : upN (rkU f n i) i (rkN f i n) = rkU f n (i + 1) := by
 funext j
 simp only [upN, rkU]
 by_cases e : j = i
 ·subst e; rw [if_pos rfl, if_pos (by omega)]; rfl
 ·rw [if_neg e]
  by_cases h : j < i
  ·rw [if_pos h, if_pos (by omega)]
  ·rw [if_neg h, if_neg (by omega)]
theorem c57 (n : Nat) (h5 : n ≤ 5) (m : Nat) (w : Nat → Wd) (f : Nat → Int) : Contract Try.prog 57 [pref n m w, psv f] (psv (rkU f n n)) := by
 refine contract_of Try.func57 rfl (by kernel_rfl) follows (by kernel_rfl) _ _ (by rw [Try.ntmps57]; simp) (by simp [OldL, Old, QV, pref, psv]) ?_
 unfold pref psv
 (repeat' (first | with_reducible (first | apply splitVC_d <;> intro _ | apply splitVC <;> intro _) | ((with_reducible refine And.intro ?_ ?_); focus (first | exact True.intro | omega | (simp only [InK, ne_eq, and_true, true_and]; omega) | trivial)) | (simp -dsimp only [↓RP, RQ, Nat.reduceMul, reduceIte, reduceCtorEq, Nat.reduceAdd, Nat.reduceEqDiff, Nat.reduceLT, Nat.reduceLeDiff, QW, Try.results57])))
 refine loop_vc (fun (i : Nat) => i ≤ n) (fun i => ⟨[(0, .ref false 2 (fun j => rf n m w j)), (3, .ptr 0 0), (4, .ptr 1 0), (5, .ptr 2 0), (12, .val (.int .i64 (n : Nat))), (13, .val (.int .i64 (i : Nat)))], [(2, .cells 73 (pl (rkU f n i))), (1, .cells 73 (pl fun _ => 0)), (0, .cells 73 (pl f))], 20⟩) (fun i => n - i) 0 (Nat.zero_le _) (weak [] [] ?_ ?_ ?_) fun i hi => ?_
 iterate 3 focus ((simp -dsimp only [↓RP, RQ, Nat.reduceMul, reduceIte, reduceCtorEq, Nat.reduceAdd, Nat.reduceEqDiff, Nat.reduceLT, Nat.reduceLeDiff, QV, rkU_0, pl]); all_goals (try simp [QV]))
 by_cases hlt : i < n
 ·have hi5 : i < 5 := by omega
  (repeat' (first | with_reducible (first | apply splitVC_d <;> intro _ | apply splitVC <;> intro _) | ((with_reducible refine And.intro ?_ ?_); focus (first | exact True.intro | omega | (simp only [InK, ne_eq, and_true, true_and]; omega) | trivial)) | (simp -dsimp only [↓RP, RQ, Nat.reduceMul, reduceIte, reduceCtorEq, Nat.reduceAdd, Nat.reduceEqDiff, Nat.reduceLT, Nat.reduceLeDiff, QW, Try.results57])))
  all_goals try (exfalso; omega)
  refine loop_vc (fun (k : Nat) => k ≤ n) (fun k => ⟨[(0, .ref false 2 (fun j => rf n m w j)), (3, .ptr 0 0), (4, .ptr 1 0), (5, .ptr 2 0), (6, .val (.int .i64 (i : Nat))), (12, .val (.int .i64 (n : Nat))), (13, .val (.int .i64 (i : Nat))), (22, .val (.int .i64 (n : Nat))), (23, .val (.int .i64 (k : Nat)))], [(2, .cells 73 (pl (upN (rkU f n i) i (rkN f i k)))), (1, .cells 73 (pl fun _ => 0)), (0, .cells 73 (pl f))], 40⟩) (fun k => n - k) 0 (Nat.zero_le _) (weak [] [] ?_ ?_ ?_) fun k hk => ?_
  iterate 3 focus ((simp -dsimp only [↓RP, RQ, Nat.reduceMul, reduceIte, reduceCtorEq, Nat.reduceAdd, Nat.reduceEqDiff, Nat.reduceLT, Nat.reduceLeDiff, QV, rkN]); all_goals (try simp [QV]))
  by_cases hkl : k < n
  ·have hk5 : k < 5 := by omega
   have b := rkN_bd f i k
   (repeat' (first | with_reducible (first | apply splitVC_d <;> intro _ | apply splitVC <;> intro _) | ((with_reducible refine And.intro ?_ ?_); focus (first | exact True.intro | omega | (simp only [InK, ne_eq, and_true, true_and]; omega) | trivial)) | (simp -dsimp only [↓RP, RQ, Nat.reduceMul, reduceIte, reduceCtorEq, Nat.reduceAdd, Nat.reduceEqDiff, Nat.reduceLT, Nat.reduceLeDiff, pl_get f hi5, pl_get f hk5, pl_get _ hi5, QW, Try.results57])))
   all_goals try (exfalso; omega)
   ·rename_i _ hc
    have e : rkN f i k + 1 = rkN f i (k + 1) := by simp only [rkN]; rw [if_pos hc]
    rw [e]
    refine ⟨k + 1, by omega, by omega, weak [] [] ?_ ?_ ?_⟩
    iterate 3 focus ((simp -dsimp only [↓RP, RQ, Nat.reduceMul, reduceIte, reduceCtorEq, Nat.reduceAdd, Nat.reduceEqDiff, Nat.reduceLT, Nat.reduceLeDiff, QV]); all_goals (try simp [QV]))
   ·rename_i _ hc
    have e : rkN f i k = rkN f i (k + 1) := by simp only [rkN]; rw [if_neg hc]
    rw [e]
    refine ⟨k + 1, by omega, by omega, weak [] [] ?_ ?_ ?_⟩
    iterate 3 focus ((simp -dsimp only [↓RP, RQ, Nat.reduceMul, reduceIte, reduceCtorEq, Nat.reduceAdd, Nat.reduceEqDiff, Nat.reduceLT, Nat.reduceLeDiff, QV]); all_goals (try simp [QV]))
  ·obtain rfl : k = n := by omega
   rw [rkU_S]
   (repeat' (first | with_reducible (first | apply splitVC_d <;> intro _ | apply splitVC <;> intro _) | ((with_reducible refine And.intro ?_ ?_); focus (first | exact True.intro | omega | (simp only [InK, ne_eq, and_true, true_and]; omega) | trivial)) | (simp -dsimp only [↓RP, RQ, Nat.reduceMul, reduceIte, reduceCtorEq, Nat.reduceAdd, Nat.reduceEqDiff, Nat.reduceLT, Nat.reduceLeDiff, QW, Try.results57])))
   all_goals try (exfalso; omega)
   refine ⟨i + 1, by omega, by omega, weak [] [] ?_ ?_ ?_⟩
   iterate 3 focus ((simp -dsimp only [↓RP, RQ, Nat.reduceMul, reduceIte, reduceCtorEq, Nat.reduceAdd, Nat.reduceEqDiff, Nat.reduceLT, Nat.reduceLeDiff, QV]); all_goals (try simp [QV]))
 ·obtain rfl : i = n := by omega
  (repeat' (first | with_reducible (first | apply splitVC_d <;> intro _ | apply splitVC <;> intro _) | ((with_reducible refine And.intro ?_ ?_); focus (first | exact True.intro | omega | (simp only [InK, ne_eq, and_true, true_and]; omega) | trivial)) | (simp -dsimp only [↓RP, RQ, Nat.reduceMul, reduceIte, reduceCtorEq, Nat.reduceAdd, Nat.reduceEqDiff, Nat.reduceLT, Nat.reduceLeDiff, QW, Try.results57])))
  all_goals try (exfalso; omega)
theorem c75 (f : Nat → Int) (x : Wd) (ha : 0 ≤ x.a ∧ x.a < 5) (hb : 0 ≤ x.b ∧ x.b < 5) : Contract Try.prog 75 [psv f, wag x] (B (decide (says x (fun y => f y.toNat)))) := by
 refine contract_of Try.func75 rfl (by kernel_rfl) follows (by kernel_rfl) _ _ (by rw [Try.ntmps75]; simp) (by simp [OldL, Old, QV, wag, psv]) ?_
 unfold psv wag B
 (repeat' (first | with_reducible (first | apply splitVC_d <;> intro _ | apply splitVC <;> intro _) | ((with_reducible refine And.intro ?_ ?_); focus (first | exact True.intro | omega | (simp only [InK, ne_eq, and_true, true_and]; omega) | trivial)) | (simp -dsimp only [↓RP, RQ, Nat.reduceMul, reduceIte, reduceCtorEq, Nat.reduceAdd, Nat.reduceEqDiff, Nat.reduceLT, Nat.reduceLeDiff, pl_get f (show x.a.toNat < 5 by omega), pl_get f (show x.b.toNat < 5 by omega), wag, QW, Try.results75])))
 all_goals (refine B_eq ?_; rw [Bool.eq_iff_iff]; simp only [decide_eq_true_eq, Bool.false_eq_true, reduceCtorEq, iff_true, true_iff, iff_false, false_iff, Bool.not_eq_true', decide_eq_false_iff_not, says_iff]; omega)
theorem sf_old (f : Nat → Int) : Old (.ref false 1 (fun _ => .fn (.func 75) [psv f] [])) := by simp [Old, OldL, psv, QV]
theorem c84 (f : Nat → Int) (x : Wd) (ha : 0 ≤ x.a ∧ x.a < 5) (hb : 0 ≤ x.b ∧ x.b < 5) : Contract Try.prog 84 [wag x, .ref false 1 (fun _ => .fn (.func 75) [psv f] [])] (B (!decide (says x (fun y => f y.toNat)))) := by
 refine contract_of Try.func84 rfl (by kernel_rfl) follows (by kernel_rfl) _ _ (by rw [Try.ntmps84]; simp) (by simp [OldL, Old, QV, wag, psv]) ?_
 unfold wag B psv
 (repeat' (first | with_reducible (first | apply splitVC_d <;> intro _ | apply splitVC <;> intro _) | ((with_reducible refine And.intro ?_ ?_); focus (first | exact True.intro | omega | (simp only [InK, ne_eq, and_true, true_and]; omega) | trivial)) | (with_reducible refine callVC (c75 f x ha hb) ?_ ?_ ?_; iterate 2 focus ((simp -dsimp only [↓RP, RQ, Nat.reduceMul, reduceIte, reduceCtorEq, Nat.reduceAdd, Nat.reduceEqDiff, Nat.reduceLT, Nat.reduceLeDiff, QX]); all_goals (try simp [QV, Go.Sx.Sub, Go.Sx.SubL]); all_goals (try exact lit2 _ _))) | (simp -dsimp only [↓RP, RQ, Nat.reduceMul, reduceIte, reduceCtorEq, Nat.reduceAdd, Nat.reduceEqDiff, Nat.reduceLT, Nat.reduceLeDiff, wag, QW, Try.results84])))
theorem c58 (n : Int) (h5 : n ≤ 5) (m : Nat) (hm : m ≤ 1000000) (w : Nat → Wd) (hw : Fit w m n) (f : Nat → Int) : Contract Try.prog 58 [pref n m w, psv f] (B (decide (agr w m f))) := by
 refine contract_of Try.func58 rfl (by kernel_rfl) follows (by kernel_rfl) _ _ (by rw [Try.ntmps58]; simp) (by simp [OldL, Old, QV, pref, psv]) ?_
 unfold pref psv B
 (repeat' (first | with_reducible (first | apply splitVC_d <;> intro _ | apply splitVC <;> intro _) | ((with_reducible refine And.intro ?_ ?_); focus (first | exact True.intro | omega | (simp only [InK, ne_eq, and_true, true_and]; omega) | trivial)) | (simp -dsimp only [↓RP, RQ, Nat.reduceMul, reduceIte, reduceCtorEq, Nat.reduceAdd, Nat.reduceEqDiff, Nat.reduceLT, Nat.reduceLeDiff, QW, Try.results58])))
 refine callVC (c52 m w 84 [.ref false 1 (fun _ => .fn (.func 75) [psv f] [])] ⟨sf_old f, trivial⟩ (fun i => !decide (says (w i) (fun y => f y.toNat))) hm fun i hi => c84 f (w i) (by have := hw.a i hi; omega) (by have := hw.b i hi; omega)) (by (simp -dsimp only [↓RP, RQ, Nat.reduceMul, reduceIte, reduceCtorEq, Nat.reduceAdd, Nat.reduceEqDiff, Nat.reduceLT, Nat.reduceLeDiff, QV, wsv, psv]); all_goals (try simp [QV, Go.Sx.Sub, Go.Sx.SubL])) (by (simp -dsimp only [↓RP, RQ, Nat.reduceMul, reduceIte, reduceCtorEq, Nat.reduceAdd, Nat.reduceEqDiff, Nat.reduceLT, Nat.reduceLeDiff, QX]); all_goals (try simp [QV])) ?_
 (repeat' (first | with_reducible (first | apply splitVC_d <;> intro _ | apply splitVC <;> intro _) | ((with_reducible refine And.intro ?_ ?_); focus (first | exact True.intro | omega | (simp only [InK, ne_eq, and_true, true_and]; omega) | trivial)) | (simp -dsimp only [↓RP, RQ, Nat.reduceMul, reduceIte, reduceCtorEq, Nat.reduceAdd, Nat.reduceEqDiff, Nat.reduceLT, Nat.reduceLeDiff, QW, Try.results58])))
 refine B_eq ?_
 rw [Bool.eq_iff_iff]
 by_cases h : agr w m f
 ·rw [decide_eq_true h, decide_eq_false (fun ⟨i, hi, hb⟩ => by have := h i hi; simp [this] at hb)]; rfl
 ·rw [decide_eq_false h, decide_eq_true]; rfl
  refine Classical.byContradiction fun hc => h fun i hi => Classical.byContradiction fun hd => hc ⟨i, hi, by simp [hd]⟩
end Go.He
end
section
set_option linter.unusedSimpArgs false
set_option linter.unusedVariables false
set_option linter.defProp false
set_option maxRecDepth 100000
set_option maxHeartbeats 16000000
namespace Go.He
open Go.Proofs
open Go.Sx
def sameI (a : Nat) (u : Nat → Int) (b : Nat) (v : Nat → Int) : Prop := a = b ∧ ∀ i, i < a → u i = v i
instance (a : Nat) (u : Nat → Int) (b : Nat) (v : Nat → Int) : Decidable (sameI a u b v) := by unfold sameI; infer_instance
theorem c27 (a : Nat) (u : Nat → Int) (b : Nat) (v : Nat → Int) (ha : a ≤ 1000000) : Contract Try.prog 27 [ints a u, ints b v] (B (decide (sameI a u b v))) := by
 refine contract_of Try.func27 rfl (by kernel_rfl) follows (by kernel_rfl) _ _ (by rw [Try.ntmps27]; simp) (by simp [OldL, Old, QV, psv, rsv, pref, wag, wsv, ints, arrs, I, B]) ?_
 unfold ints B
 (repeat' (first | with_reducible (first | apply splitVC_d <;> intro _ | apply splitVC <;> intro _) | ((with_reducible refine And.intro ?_ ?_); focus (first | exact True.intro | omega | (simp only [InK, ne_eq, and_true, true_and]; omega) | trivial)) | (simp -dsimp only [↓RP, RQ, Nat.reduceMul, reduceIte, reduceCtorEq, Nat.reduceAdd, Nat.reduceEqDiff, Nat.reduceLT, Nat.reduceLeDiff, QW, Try.results27])))
 ·rename_i h
  have h : a = b := by omega
  subst h
  refine loop_vc (fun (i : Nat) => i ≤ a ∧ ∀ j, j < i → u j = v j) (fun i => ⟨[(0, .arr false false a 1 (fun i _ => .val (.int .i64 (u i)))), (1, .arr false false a 1 (fun i _ => .val (.int .i64 (v i)))), (5, .val (.int .i64 (i : Nat)))], [], 20⟩) (fun i => a - i) 0 ⟨Nat.zero_le _, fun j hj => by omega⟩ (weak [] [] ?_ ?_ ?_) fun i hi => ?_
  iterate 3 focus ((simp -dsimp only [↓RP, RQ, Nat.reduceMul, reduceIte, reduceCtorEq, Nat.reduceAdd, Nat.reduceEqDiff, Nat.reduceLT, Nat.reduceLeDiff, QV]); all_goals (try simp [QV]))
  obtain ⟨hi, hs⟩ := hi
  by_cases hlt : i < a
  ·(repeat' (first | with_reducible (first | apply splitVC_d <;> intro _ | apply splitVC <;> intro _) | ((with_reducible refine And.intro ?_ ?_); focus (first | exact True.intro | omega | (simp only [InK, ne_eq, and_true, true_and]; omega) | trivial)) | (simp -dsimp only [↓RP, RQ, Nat.reduceMul, reduceIte, reduceCtorEq, Nat.reduceAdd, Nat.reduceEqDiff, Nat.reduceLT, Nat.reduceLeDiff, QW, Try.results27])))
   all_goals try (exfalso; omega)
   ·rename_i _ hc
    refine ⟨i + 1, ⟨by omega, fun j hj => ?_⟩, by omega, weak [] [] ?_ ?_ ?_⟩
    ·by_cases e : j = i
     ·subst e; exact hc
     ·exact hs j (by omega)
    iterate 3 focus ((simp -dsimp only [↓RP, RQ, Nat.reduceMul, reduceIte, reduceCtorEq, Nat.reduceAdd, Nat.reduceEqDiff, Nat.reduceLT, Nat.reduceLeDiff, QV]); all_goals (try simp [QV]))
   ·rename_i _ hc
    refine B_eq ?_
    rw [decide_eq_false]
    exact fun h => hc (h.2 i hlt)
  ·obtain rfl : i = a := by omega
   (repeat' (first | with_reducible (first | apply splitVC_d <;> intro _ | apply splitVC <;> intro _) | ((with_reducible refine And.intro ?_ ?_); focus (first | exact True.intro | omega | (simp only [InK, ne_eq, and_true, true_and]; omega) | trivial)) | (simp -dsimp only [↓RP, RQ, Nat.reduceMul, reduceIte, reduceCtorEq, Nat.reduceAdd, Nat.reduceEqDiff, Nat.reduceLT, Nat.reduceLeDiff, QW, Try.results27])))
   all_goals try (exfalso; omega)
   refine B_eq ?_
   rw [decide_eq_true]
   exact ⟨rfl, hs⟩
 ·rename_i h
  refine B_eq ?_
  rw [decide_eq_false]
  exact fun hc => h (by rw [hc.1])
theorem c17 (n : Int) (m : Nat) (w : Nat → Wd) : Contract Try.prog 17 [rsv n m w] (B (decide (20 < m))) := by
 refine contract_of Try.func17 rfl (by kernel_rfl) follows (by kernel_rfl) _ _ (by rw [Try.ntmps17]; simp) (by simp [OldL, Old, QV, rsv]) ?_
 unfold rsv B
 (repeat' (first | with_reducible (first | apply splitVC_d <;> intro _ | apply splitVC <;> intro _) | ((with_reducible refine And.intro ?_ ?_); focus (first | exact True.intro | omega | (simp only [InK, ne_eq, and_true, true_and]; omega) | trivial)) | (simp -dsimp only [↓RP, RQ, Nat.reduceMul, reduceIte, reduceCtorEq, Nat.reduceAdd, Nat.reduceEqDiff, Nat.reduceLT, Nat.reduceLeDiff, QW, Try.results17])))
 all_goals (refine B_eq ?_; rw [Bool.eq_iff_iff]; simp only [decide_eq_true_eq]; omega)
end Go.He
end
