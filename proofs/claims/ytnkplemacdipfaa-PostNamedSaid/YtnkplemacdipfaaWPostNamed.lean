/- A part of the proof. -/
import Derived.Test.YtnkplemacdipfaaLB
import Derived.Test.YtnkplemacdipfaaED
section
set_option linter.unusedSimpArgs false
set_option linter.unusedVariables false
namespace Go.Po
open Go.Sx
def sw (f : Nat → Nat) (a b : Nat) : Nat → Nat := fun i => if i = b then f a else if i = a then f b else f i
def Pool.nm (p : Pool) (f : Nat → Nat) : Pool := ⟨p.n, fun i => p.lo (f i), fun i => p.hi (f i), p.per, p.pence, p.keep, p.step⟩
structure Nm (p : Pool) (f : Nat → Nat) : Prop where
  lt : ∀ i, i < p.n → f i < p.n
  slo : sumTo (fun i => p.lo (f i)) p.n = sumTo p.lo p.n
  shi : sumTo (fun i => p.hi (f i)) p.n = sumTo p.hi p.n
theorem nm_id (p : Pool) : Nm p (fun i => i) := ⟨fun _ h => h, rfl, rfl⟩
theorem sum_sw (u : Nat → Int) (f : Nat → Nat) (a b n : Nat) (ha : a < n) (hb : b < n) : sumTo (fun i => u (sw f a b i)) n = sumTo (fun i => u (f i)) n := by
  by_cases e : a = b
  · subst e
    congr 1
    funext i
    unfold sw
    split
    · rename_i h; rw [h]
    · rfl
  · have e1 : (fun i => u (sw f a b i)) = (fun i => if i = b then u (f a) else (fun i => if i = a then u (f b) else (fun i => u (f i)) i) i) := by
      funext i
      unfold sw
      by_cases h : i = b
      · simp only [if_pos h]
      · by_cases h' : i = a
        · simp only [if_neg h, if_pos h']
        · simp only [if_neg h, if_neg h']
    rw [e1, sum_put, if_pos hb]
    show u (f a) + sumTo (ex (fun i => if i = a then u (f b) else u (f i)) b) n = sumTo (fun i => u (f i)) n
    have h1 := sumTo_ex (fun i => if i = a then u (f b) else (fun i => u (f i)) i) b n hb
    have h2 := sum_put (fun i => u (f i)) a (u (f b)) n
    have h3 := sumTo_ex (fun i => u (f i)) a n ha
    rw [if_pos ha] at h2
    have h4 : (if b = a then u (f b) else u (f b)) = u (f b) := by split <;> rfl
    simp only [h4] at h1
    omega
theorem nm_sw {p : Pool} {f : Nat → Nat} (h : Nm p f) (a b : Nat) (ha : a < p.n) (hb : b < p.n) : Nm p (sw f a b) :=
  ⟨fun i hi => by
    unfold sw
    split
    · exact h.lt a ha
    · split
      · exact h.lt b hb
      · exact h.lt i hi, by rw [sum_sw p.lo f a b p.n ha hb]; exact h.slo, by rw [sum_sw p.hi f a b p.n ha hb]; exact h.shi⟩
theorem nm_fine (p : Pool) (h : p.Fine) (f : Nat → Nat) (hf : Nm p f) : (p.nm f).Fine :=
  ⟨h.n2, h.n8, h.per1, h.per2, h.pence1, h.pence2, h.keep1, h.keep2, h.step1, h.step2, fun i hi => h.rg (f i) (hf.lt i hi)⟩
section
variable (p : Pool) (f : Nat → Nat) (hf : Nm p f) (i : Nat) (hi : i < p.n)
include hf hi
theorem nm_olo : (p.nm f).olo i = p.olo (f i) := by
  have h1 := sumTo_ex (fun i => p.lo (f i)) i p.n hi
  have h2 := sumTo_ex p.lo (f i) p.n (hf.lt i hi)
  have h3 := hf.slo
  show sumTo (ex (fun i => p.lo (f i)) i) p.n = sumTo (ex p.lo (f i)) p.n
  omega
theorem nm_ohi : (p.nm f).ohi i = p.ohi (f i) := by
  have h1 := sumTo_ex (fun i => p.hi (f i)) i p.n hi
  have h2 := sumTo_ex p.hi (f i) p.n (hf.lt i hi)
  have h3 := hf.shi
  show sumTo (ex (fun i => p.hi (f i)) i) p.n = sumTo (ex p.hi (f i)) p.n
  omega
theorem nm_ta : (p.nm f).ta i = p.ta (f i) := by
  unfold Pool.ta
  rw [nm_olo p f hf i hi]; rfl
theorem nm_tb : (p.nm f).tb i = p.tb (f i) := by
  unfold Pool.tb
  rw [nm_ohi p f hf i hi]; rfl
theorem nm_num : (p.nm f).num i = p.num (f i) := by
  unfold Pool.num
  rw [nm_ta p f hf i hi, nm_tb p f hf i hi]
theorem nm_sLo (d : Int) : (p.nm f).sLo i d = p.sLo (f i) d := by
  unfold Pool.sLo
  rw [nm_num p f hf i hi]
  congr 1
  funext k
  unfold Pool.lowAt
  rw [nm_ta p f hf i hi, nm_olo p f hf i hi]; rfl
theorem nm_sHi (d : Int) : (p.nm f).sHi i d = p.sHi (f i) d := by
  unfold Pool.sHi
  rw [nm_num p f hf i hi]
  congr 1
  funext k
  unfold Pool.highAt
  rw [nm_ta p f hf i hi, nm_ohi p f hf i hi]; rfl
theorem nm_netAt (k : Nat) : (p.nm f).netAt i k = p.netAt (f i) k := by
  unfold Pool.netAt
  rw [nm_ta p f hf i hi]; rfl
theorem nm_mostAt (k : Nat) : (p.nm f).mostAt i k = p.mostAt (f i) k := by
  unfold Pool.mostAt
  rw [nm_ta p f hf i hi, nm_olo p f hf i hi]; rfl
theorem nm_bestTo : ∀ k, (p.nm f).bestTo i k = p.bestTo (f i) k
  | 0 => rfl
  | k + 1 => by
    unfold Pool.bestTo
    rw [nm_mostAt p f hf i hi, nm_netAt p f hf i hi, nm_bestTo k]
theorem nm_div : (p.nm f).div i = p.div (f i) := by
  unfold Pool.div
  rw [nm_num p f hf i hi, nm_bestTo p f hf i hi]
  simp only [nm_netAt p f hf i hi]
  rfl
end
theorem nm_asked (p : Pool) (hp : p.Fine) (f : Nat → Nat) (hf : Nm p f) (r d : Int) : (p.nm f).asked r d = p.asked r d := by
  unfold Pool.asked
  rw [err_fine hp, err_fine (nm_fine p hp f hf)]
  rfl
end Go.Po
end
section
set_option linter.unusedSimpArgs false
set_option linter.unusedVariables false
set_option maxRecDepth 100000
set_option maxHeartbeats 16000000
namespace Go.Po
open Go.Sx
theorem by35 : bytesOf Go.Proofs.Try.prog 35 = 16 := by kernel_rfl
theorem by3 : bytesOf Go.Proofs.Try.prog 3 = 8 := by kernel_rfl
theorem ty75 : tyOf Go.Proofs.Try.prog 75 = some ⟨false, 1, some [.slice none 0 0], .slice 3 1⟩ := by kernel_rfl
theorem c15 (hw : Wk19) (p : Pool) (rr : Int) (hr0 : 0 ≤ rr) (hr1 : rr ≤ 255) (b : Int) (hb0 : 0 ≤ b) (hb1 : b ≤ 4294967295) (m : Nat) (u : Nat → Int) (hu : ∀ i, i < m → 0 ≤ u i ∧ u i ≤ 255) : Contract Go.Proofs.Try.prog 15 [p.sv, .val (.int .u8 rr), .val (.int .u32 b), by8 m u] (B true) := by
  refine contract_ofF (farAt 15 [(71, 84)]) Go.Proofs.Try.func15 rfl (by kernel_rfl) follows (by kernel_rfl) _ _ (by rw [Go.Proofs.Try.ntmps15]; simp) (by simp only [OldL]; simp [Pool.old, pools_old, Old, ints, I, by8]) ?_
  unfold B
  conv => arg 4; unfold Pool.sv rngs I by8
  (repeat' (first | with_reducible refine splitVC_d (fun _ => ?_) (fun _ => ?_) | ((with_reducible refine And.intro ?_ ?_); focus (first | trivial | (simp only [InK]; omega) | omega | (simp only [InK, ne_eq, and_true, true_and]; omega))) | simp -dsimp only [↓RP, RQ0, RQ1, RQ2, RQ3, implies_true, forall_const, Nat.reduceMul, reduceIte, reduceCtorEq, Nat.reduceAdd, Nat.reduceEqDiff, Nat.reduceLT, Nat.reduceLeDiff, by35, by3, ty75, B, I, rg, Nat.zero_add, ty2, ty3, ty4, ty5, ty22, ty24, ty25, ty28, ty35, pl35, eq35, ty52, ty56, ty57, Int.reduceEq, Int.reduceLT, Int.reduceLE, decide_true, decide_false, Bool.not_true, Bool.not_false, eq_self, Go.Proofs.Try.results15]))
  refine callVC (c43 p) (by (simp -dsimp only [↓RP, RQ0, RQ1, RQ2, RQ3, implies_true, forall_const, Nat.reduceMul, reduceIte, reduceCtorEq, Nat.reduceAdd, Nat.reduceEqDiff, Nat.reduceLT, Nat.reduceLeDiff, Pool.sv, rngs, I, ints]); all_goals (try simp)) (by (simp -dsimp only [↓RP, RQ0, RQ1, RQ2, RQ3, implies_true, forall_const, Nat.reduceMul, reduceIte, reduceCtorEq, Nat.reduceAdd, Nat.reduceEqDiff, Nat.reduceLT, Nat.reduceLeDiff, B, I, rg])) ?_
  (repeat' (first | with_reducible refine splitVC_d (fun _ => ?_) (fun _ => ?_) | ((with_reducible refine And.intro ?_ ?_); focus (first | trivial | (simp only [InK]; omega) | omega | (simp only [InK, ne_eq, and_true, true_and]; omega))) | simp -dsimp only [↓RP, RQ0, RQ1, RQ2, RQ3, implies_true, forall_const, Nat.reduceMul, reduceIte, reduceCtorEq, Nat.reduceAdd, Nat.reduceEqDiff, Nat.reduceLT, Nat.reduceLeDiff, by35, by3, ty75, B, I, rg, Nat.zero_add, ty2, ty3, ty4, ty5, ty22, ty24, ty25, ty28, ty35, pl35, eq35, ty52, ty56, ty57, Int.reduceEq, Int.reduceLT, Int.reduceLE, decide_true, decide_false, Bool.not_true, Bool.not_false, eq_self, Go.Proofs.Try.results15]))
  rotate_right
  · refine callVC hw (by (simp -dsimp only [↓RP, RQ0, RQ1, RQ2, RQ3, implies_true, forall_const, Nat.reduceMul, reduceIte, reduceCtorEq, Nat.reduceAdd, Nat.reduceEqDiff, Nat.reduceLT, Nat.reduceLeDiff])) (by (simp -dsimp only [↓RP, RQ0, RQ1, RQ2, RQ3, implies_true, forall_const, Nat.reduceMul, reduceIte, reduceCtorEq, Nat.reduceAdd, Nat.reduceEqDiff, Nat.reduceLT, Nat.reduceLeDiff, B])) ?_
    (repeat' (first | with_reducible refine splitVC_d (fun _ => ?_) (fun _ => ?_) | ((with_reducible refine And.intro ?_ ?_); focus (first | trivial | (simp only [InK]; omega) | omega | (simp only [InK, ne_eq, and_true, true_and]; omega))) | simp -dsimp only [↓RP, RQ0, RQ1, RQ2, RQ3, implies_true, forall_const, Nat.reduceMul, reduceIte, reduceCtorEq, Nat.reduceAdd, Nat.reduceEqDiff, Nat.reduceLT, Nat.reduceLeDiff, B, I, rg, Nat.zero_add, ty2, ty3, ty4, ty5, ty22, ty24, ty25, ty28, ty35, pl35, eq35, ty52, ty56, ty57, Int.reduceEq, Int.reduceLT, Int.reduceLE, decide_true, decide_false, Bool.not_true, Bool.not_false, eq_self, Go.Proofs.Try.results15]))
  · refine callVC hw (by (simp -dsimp only [↓RP, RQ0, RQ1, RQ2, RQ3, implies_true, forall_const, Nat.reduceMul, reduceIte, reduceCtorEq, Nat.reduceAdd, Nat.reduceEqDiff, Nat.reduceLT, Nat.reduceLeDiff])) (by (simp -dsimp only [↓RP, RQ0, RQ1, RQ2, RQ3, implies_true, forall_const, Nat.reduceMul, reduceIte, reduceCtorEq, Nat.reduceAdd, Nat.reduceEqDiff, Nat.reduceLT, Nat.reduceLeDiff, B])) ?_
    (repeat' (first | with_reducible refine splitVC_d (fun _ => ?_) (fun _ => ?_) | ((with_reducible refine And.intro ?_ ?_); focus (first | trivial | (simp only [InK]; omega) | omega | (simp only [InK, ne_eq, and_true, true_and]; omega))) | simp -dsimp only [↓RP, RQ0, RQ1, RQ2, RQ3, implies_true, forall_const, Nat.reduceMul, reduceIte, reduceCtorEq, Nat.reduceAdd, Nat.reduceEqDiff, Nat.reduceLT, Nat.reduceLeDiff, B, I, rg, Nat.zero_add, ty2, ty3, ty4, ty5, ty22, ty24, ty25, ty28, ty35, pl35, eq35, ty52, ty56, ty57, Int.reduceEq, Int.reduceLT, Int.reduceLE, decide_true, decide_false, Bool.not_true, Bool.not_false, eq_self, Go.Proofs.Try.results15]))
  rename_i hfi hm0
  obtain ⟨he, hf, h8, h2⟩ := fine_err hfi
  have hn : p.n ≤ 1000000 := by omega
  have hm : m ≤ 20 := by omega
  refine ⟨⟨.inr trivial, hn⟩, ?_⟩
  refine loop_vc (fun i => i ≤ p.n) (fun i => ⟨[(1, .val (.int .u8 rr)), (2, .val (.int .u32 b)), (3, .arr false false m 1 (fun i _ => .val (.int .u8 (u i)))), (4, .ptr 0 0), (9, .val (.int .i64 p.n)), (10, .ptr 15 0), (11, .vec 70 i 1), (12, .val (.int .i64 i))], [(70, .rows 3 1 i (fun a _ => .val (.int .i64 a))), (20, .rows 35 2 p.n (fun a c => .val (.int .i64 (if c = 0 then p.lo a else p.hi a)))), (15, .cells 24 [.vec 20 p.n 2, .val (.int .i64 p.per), .val (.int .i64 p.pence), .val (.int .i64 p.keep), .val (.int .i64 p.step)]), (0, pB p)], 71⟩) (fun i => p.n - i) 0 (Nat.zero_le _) (weak [(70, none)] [] ?_ ?_ ?_) fun i hi => ?_
  · (simp -dsimp only [↓RP, RQ0, RQ1, RQ2, RQ3, implies_true, forall_const, Nat.reduceMul, reduceIte, reduceCtorEq, Nat.reduceAdd, Nat.reduceEqDiff, Nat.reduceLT, Nat.reduceLeDiff]); all_goals simp
  · (simp -dsimp only [↓RP, RQ0, RQ1, RQ2, RQ3, implies_true, forall_const, Nat.reduceMul, reduceIte, reduceCtorEq, Nat.reduceAdd, Nat.reduceEqDiff, Nat.reduceLT, Nat.reduceLeDiff]); all_goals simp
  · (simp -dsimp only [↓RP, RQ0, RQ1, RQ2, RQ3, implies_true, forall_const, Nat.reduceMul, reduceIte, reduceCtorEq, Nat.reduceAdd, Nat.reduceEqDiff, Nat.reduceLT, Nat.reduceLeDiff]); all_goals simp
  (repeat' (first | with_reducible refine splitVC_d (fun _ => ?_) (fun _ => ?_) | ((with_reducible refine And.intro ?_ ?_); focus (first | trivial | (simp only [InK]; omega) | omega | (simp only [InK, ne_eq, and_true, true_and]; omega))) | simp -dsimp only [↓RP, RQ0, RQ1, RQ2, RQ3, implies_true, forall_const, Nat.reduceMul, reduceIte, reduceCtorEq, Nat.reduceAdd, Nat.reduceEqDiff, Nat.reduceLT, Nat.reduceLeDiff, by35, by3, ty75, B, I, rg, Nat.zero_add, ty2, ty3, ty4, ty5, ty22, ty24, ty25, ty28, ty35, pl35, eq35, ty52, ty56, ty57, Int.reduceEq, Int.reduceLT, Int.reduceLE, decide_true, decide_false, Bool.not_true, Bool.not_false, eq_self, Go.Proofs.Try.results15]))
  · refine ⟨⟨.inr trivial, Nat.le_refl _, fun a c ha hc => by rw [lit1 _ a c ha hc]; rfl, by omega⟩, by (first | trivial | (simp only [InK]; omega) | omega | (simp only [InK, ne_eq, and_true, true_and]; omega)), i + 1, by omega, by omega, weak [(70, some 77)] [] ?_ ?_ ?_⟩
    · (simp -dsimp only [↓RP, RQ0, RQ1, RQ2, RQ3, implies_true, forall_const, Nat.reduceMul, reduceIte, reduceCtorEq, Nat.reduceAdd, Nat.reduceEqDiff, Nat.reduceLT, Nat.reduceLeDiff]); all_goals simp
    · (simp -dsimp only [↓RP, RQ0, RQ1, RQ2, RQ3, implies_true, forall_const, Nat.reduceMul, reduceIte, reduceCtorEq, Nat.reduceAdd, Nat.reduceEqDiff, Nat.reduceLT, Nat.reduceLeDiff]); all_goals simp
      exact fun a h1 h2 => app2 (fun j => .val (.int .i64 (j : Int))) i a h1 h2
    · (simp -dsimp only [↓RP, RQ0, RQ1, RQ2, RQ3, implies_true, forall_const, Nat.reduceMul, reduceIte, reduceCtorEq, Nat.reduceAdd, Nat.reduceEqDiff, Nat.reduceLT, Nat.reduceLeDiff]); all_goals simp
  have hin : i = p.n := by omega
  subst hin
  refine loop_vc (fun (q : Nat × (Nat → Nat)) => q.1 ≤ m ∧ Nm p q.2) (fun q => ⟨[(1, .val (.int .u8 rr)), (2, .val (.int .u32 b)), (3, .arr false false m 1 (fun i _ => .val (.int .u8 (u i)))), (4, .ptr 0 0), (9, .val (.int .i64 p.n)), (10, .ptr 15 0), (11, .vec 70 p.n 1), (13, .val (.int .i64 q.1))], [(70, .rows 3 1 p.n (fun a _ => .val (.int .i64 (q.2 a)))), (20, .rows 35 2 p.n (fun a c => .val (.int .i64 (if c = 0 then p.lo (q.2 a) else p.hi (q.2 a))))), (15, .cells 24 [.vec 20 p.n 2, .val (.int .i64 p.per), .val (.int .i64 p.pence), .val (.int .i64 p.keep), .val (.int .i64 p.step)]), (0, pB p)], 75⟩) (fun q => m - q.1) (0, fun i => i) ⟨Nat.zero_le _, nm_id p⟩ (weak [] [] ?_ ?_ ?_) fun q hq => ?_
  · (simp -dsimp only [↓RP, RQ0, RQ1, RQ2, RQ3, implies_true, forall_const, Nat.reduceMul, reduceIte, reduceCtorEq, Nat.reduceAdd, Nat.reduceEqDiff, Nat.reduceLT, Nat.reduceLeDiff]); all_goals simp
  · (simp -dsimp only [↓RP, RQ0, RQ1, RQ2, RQ3, implies_true, forall_const, Nat.reduceMul, reduceIte, reduceCtorEq, Nat.reduceAdd, Nat.reduceEqDiff, Nat.reduceLT, Nat.reduceLeDiff]); all_goals simp
  · (simp -dsimp only [↓RP, RQ0, RQ1, RQ2, RQ3, implies_true, forall_const, Nat.reduceMul, reduceIte, reduceCtorEq, Nat.reduceAdd, Nat.reduceEqDiff, Nat.reduceLT, Nat.reduceLeDiff]); all_goals simp
  obtain ⟨i, f⟩ := q
  obtain ⟨hi2, hnm⟩ := hq
  have hi2 : i ≤ m := hi2
  have hnm : Nm p f := hnm
  have ea : (i : Int).tmod (p.n : Int) = ((i % p.n : Nat) : Int) := by rw [tmod_nat (i : Int) p.n (by omega), Int.toNat_natCast]
  have hka : i % p.n < p.n := Nat.mod_lt _ (by omega)
  have eb := fun h : i < m => tmod_nat (u i) p.n (hu i h).1
  have hkb : (u i).toNat % p.n < p.n := Nat.mod_lt _ (by omega)
  generalize i % p.n = ka at ea hka
  generalize (u i).toNat % p.n = kb at eb hkb
  by_cases hi3 : i < m
  · have eb := eb hi3
    have hui := hu i hi3
    (repeat' (first | with_reducible refine splitVC_d (fun _ => ?_) (fun _ => ?_) | ((with_reducible refine And.intro ?_ ?_); focus (first | trivial | (simp only [InK]; omega) | omega | (simp only [InK, ne_eq, and_true, true_and]; omega))) | simp -dsimp only [↓RP, RQ0, RQ1, RQ2, RQ3, implies_true, forall_const, Nat.reduceMul, reduceIte, reduceCtorEq, Nat.reduceAdd, Nat.reduceEqDiff, Nat.reduceLT, Nat.reduceLeDiff, by35, by3, ty75, ea, eb, Int.toNat_natCast, B, I, rg, Nat.zero_add, ty2, ty3, ty4, ty5, ty22, ty24, ty25, ty28, ty35, pl35, eq35, ty52, ty56, ty57, Int.reduceEq, Int.reduceLT, Int.reduceLE, decide_true, decide_false, Bool.not_true, Bool.not_false, eq_self, Go.Proofs.Try.results15]))
    refine ⟨(i + 1, sw f ka kb), ⟨by show i + 1 ≤ m; omega, nm_sw hnm ka kb hka hkb⟩, by show m - (i + 1) < m - i; omega, weak [] [] ?_ ?_ ?_⟩
    · (simp -dsimp only [↓RP, RQ0, RQ1, RQ2, RQ3, implies_true, forall_const, Nat.reduceMul, reduceIte, reduceCtorEq, Nat.reduceAdd, Nat.reduceEqDiff, Nat.reduceLT, Nat.reduceLeDiff]); all_goals simp
    · (simp -dsimp only [↓RP, RQ0, RQ1, RQ2, RQ3, implies_true, forall_const, Nat.reduceMul, reduceIte, reduceCtorEq, Nat.reduceAdd, Nat.reduceEqDiff, Nat.reduceLT, Nat.reduceLeDiff]); all_goals (try simp)
      refine ⟨fun a ha => ?_, fun a c ha hc => ?_⟩
      · by_cases e1 : a = kb <;> by_cases e2 : a = ka <;> first | (subst e2; simp [sw, e1]; done) | (simp [sw, e1, e2]; done)
      · have hc2 : c = 0 ∨ c = 1 := by omega
        rcases hc2 with rfl | rfl <;> by_cases e1 : a = kb <;> by_cases e2 : a = ka <;> first | (subst e2; simp [sw, e1]; done) | (simp [sw, e1, e2]; done)
    · (simp -dsimp only [↓RP, RQ0, RQ1, RQ2, RQ3, implies_true, forall_const, Nat.reduceMul, reduceIte, reduceCtorEq, Nat.reduceAdd, Nat.reduceEqDiff, Nat.reduceLT, Nat.reduceLeDiff]); all_goals simp
    all_goals first | (exfalso; omega) | skip
  have hie : i = m := by omega
  subst hie
  clear eb hkb
  (repeat' (first | with_reducible refine splitVC_d (fun _ => ?_) (fun _ => ?_) | ((with_reducible refine And.intro ?_ ?_); focus (first | trivial | (simp only [InK]; omega) | omega | (simp only [InK, ne_eq, and_true, true_and]; omega))) | simp -dsimp only [↓RP, RQ0, RQ1, RQ2, RQ3, implies_true, forall_const, Nat.reduceMul, reduceIte, reduceCtorEq, Nat.reduceAdd, Nat.reduceEqDiff, Nat.reduceLT, Nat.reduceLeDiff, by35, by3, ty75, Int.toNat_natCast, B, I, rg, Nat.zero_add, ty2, ty3, ty4, ty5, ty22, ty24, ty25, ty28, ty35, pl35, eq35, ty52, ty56, ty57, Int.reduceEq, Int.reduceLT, Int.reduceLE, decide_true, decide_false, Bool.not_true, Bool.not_false, eq_self, Go.Proofs.Try.results15]))
  all_goals first | (exfalso; omega) | skip
  clear ea hka
  have ek := tmod_nat rr p.n hr0
  have hk : rr.toNat % p.n < p.n := Nat.mod_lt _ (by omega)
  generalize rr.toNat % p.n = k at ek hk
  have hX := nm_fine p hf f hnm
  have hdv : ∀ j : Nat, j < p.n → (p.nm f).div j = p.div (f j) := fun j hj => nm_div p f hnm j hj
  have hfk := hnm.lt k hk
  obtain ⟨ha, hD0, hD1⟩ := pen_ok p he (f k) hfk b hb0
  obtain ⟨hax, -, -⟩ := pen_ok p he k hk b hb0
  rw [← nm_asked p hf f hnm] at hax
  have hD : b.tmod (Int.tdiv 100000 p.step + 1) * p.step = p.pen b := rfl
  have s1 : (p.nm f).spLo k (p.pen b) = p.sLo (f k) (p.pen b) := by unfold Pool.spLo; rw [if_pos hax, nm_sLo p f hnm k hk]
  have s2 : (p.nm f).spHi k (p.pen b) = p.sHi (f k) (p.pen b) := by unfold Pool.spHi; rw [if_pos hax, nm_sHi p f hnm k hk]
  have t1 : p.spLo (f k) (p.pen b) = p.sLo (f k) (p.pen b) := by unfold Pool.spLo; rw [if_pos ha]
  have t2 : p.spHi (f k) (p.pen b) = p.sHi (f k) (p.pen b) := by unfold Pool.spHi; rw [if_pos ha]
  have h26x := c26 (p.nm f) hn k (p.pen b)
  have h26p := c26 p hn (f k) (p.pen b)
  rw [s1, s2, hax] at h26x
  rw [t1, t2, ha] at h26p
  have h44 := c44 p hf b hb0 hb1
  rw [hD] at h44
  generalize hDD : p.pen b = D at *
  generalize p.sLo (f k) D = SL at *
  generalize p.sHi (f k) D = SH at *
  rcases board_cases p hf with hB | ⟨⟨q, hq1, hlt, hb⟩, hA⟩
  · have hBX : ∀ j : Nat, j < p.n → 0 ≤ (p.nm f).div j := fun j hj => by have h1 := hdv j hj; have h2 := (hB (f j) (hnm.lt j hj)).1; omega
    refine callN (c34o p he (fun j hj => (hB j hj).1)) (by (simp -dsimp only [↓RP, RQ0, RQ1, RQ2, RQ3, implies_true, forall_const, Nat.reduceMul, reduceIte, reduceCtorEq, Nat.reduceAdd, Nat.reduceEqDiff, Nat.reduceLT, Nat.reduceLeDiff, Pool.sv, rngs, I, ints]); all_goals (try simp)) (by simp [FreshO, FreshOL, I]) (by simp [FreshB, Fresh, I]) ?_
    (repeat' (first | with_reducible refine splitVC_d (fun _ => ?_) (fun _ => ?_) | ((with_reducible refine And.intro ?_ ?_); focus (first | trivial | (simp only [InK]; omega) | omega | (simp only [InK, ne_eq, and_true, true_and]; omega))) | simp -dsimp only [↓RP, RQ0, RQ1, RQ2, RQ3, implies_true, forall_const, Nat.reduceMul, reduceIte, reduceCtorEq, Nat.reduceAdd, Nat.reduceEqDiff, Nat.reduceLT, Nat.reduceLeDiff, by35, by3, ty75, ek, Int.toNat_natCast, B, I, rg, Nat.zero_add, ty2, ty3, ty4, ty5, ty22, ty24, ty25, ty28, ty35, pl35, eq35, ty52, ty56, ty57, Int.reduceEq, Int.reduceLT, Int.reduceLE, decide_true, decide_false, Bool.not_true, Bool.not_false, eq_self, Go.Proofs.Try.results15]))
    have hc2 : ContractN Go.Proofs.Try.prog 34 [(p.nm f).sv] (.rows 2 1 p.n (fun j _ => I ((p.nm f).div j))) (.tup [.vec 0 p.n 1, I 0]) := c34o (p.nm f) (err_fine hX) hBX
    refine callN hc2 (by (simp -dsimp only [↓RP, RQ0, RQ1, RQ2, RQ3, implies_true, forall_const, Nat.reduceMul, reduceIte, reduceCtorEq, Nat.reduceAdd, Nat.reduceEqDiff, Nat.reduceLT, Nat.reduceLeDiff, Pool.sv, rngs, I, ints, Pool.nm]); all_goals (try simp)) (by simp [FreshO, FreshOL, I]) (by simp [FreshB, Fresh, I]) ?_
    (repeat' (first | with_reducible refine splitVC_d (fun _ => ?_) (fun _ => ?_) | ((with_reducible refine And.intro ?_ ?_); focus (first | trivial | (simp only [InK]; omega) | omega | (simp only [InK, ne_eq, and_true, true_and]; omega))) | simp -dsimp only [↓RP, RQ0, RQ1, RQ2, RQ3, implies_true, forall_const, Nat.reduceMul, reduceIte, reduceCtorEq, Nat.reduceAdd, Nat.reduceEqDiff, Nat.reduceLT, Nat.reduceLeDiff, by35, by3, ty75, ek, Int.toNat_natCast, B, I, rg, Nat.zero_add, ty2, ty3, ty4, ty5, ty22, ty24, ty25, ty28, ty35, pl35, eq35, ty52, ty56, ty57, Int.reduceEq, Int.reduceLT, Int.reduceLE, decide_true, decide_false, Bool.not_true, Bool.not_false, eq_self, Go.Proofs.Try.results15]))
    refine loop_vc (fun (i : Nat) => i ≤ p.n) (fun i => ⟨[(1, .val (.int .u8 rr)), (2, .val (.int .u32 b)), (4, .ptr 0 0), (9, .val (.int .i64 p.n)), (10, .ptr 15 0), (11, .vec 70 p.n 1), (16, .vec 80 p.n 1), (18, .vec 87 p.n 1), (20, .val (.int .i64 i))], [(87, .rows 2 1 p.n (fun j _ => .val (.int .i64 ((p.nm f).div j)))), (80, .rows 2 1 p.n (fun j _ => .val (.int .i64 (p.div j)))), (70, .rows 3 1 p.n (fun a _ => .val (.int .i64 (f a)))), (20, .rows 35 2 p.n (fun a c => .val (.int .i64 (if c = 0 then p.lo (f a) else p.hi (f a))))), (15, .cells 24 [.vec 20 p.n 2, .val (.int .i64 p.per), .val (.int .i64 p.pence), .val (.int .i64 p.keep), .val (.int .i64 p.step)]), (0, pB p)], 122⟩) (fun (i : Nat) => p.n - i) 0 (Nat.zero_le _) (weak [] [] ?_ ?_ ?_) fun i hi => ?_
    · (simp -dsimp only [↓RP, RQ0, RQ1, RQ2, RQ3, implies_true, forall_const, Nat.reduceMul, reduceIte, reduceCtorEq, Nat.reduceAdd, Nat.reduceEqDiff, Nat.reduceLT, Nat.reduceLeDiff]); all_goals simp
    · (simp -dsimp only [↓RP, RQ0, RQ1, RQ2, RQ3, implies_true, forall_const, Nat.reduceMul, reduceIte, reduceCtorEq, Nat.reduceAdd, Nat.reduceEqDiff, Nat.reduceLT, Nat.reduceLeDiff]); all_goals simp
    · (simp -dsimp only [↓RP, RQ0, RQ1, RQ2, RQ3, implies_true, forall_const, Nat.reduceMul, reduceIte, reduceCtorEq, Nat.reduceAdd, Nat.reduceEqDiff, Nat.reduceLT, Nat.reduceLeDiff]); all_goals simp
    by_cases hi4 : i < p.n
    · have v1 := hdv i hi4
      have hfi2 := hnm.lt i hi4
      (repeat' (first | with_reducible refine splitVC_d (fun _ => ?_) (fun _ => ?_) | ((with_reducible refine And.intro ?_ ?_); focus (first | trivial | (simp only [InK]; omega) | omega | (simp only [InK, ne_eq, and_true, true_and]; omega))) | simp -dsimp only [↓RP, RQ0, RQ1, RQ2, RQ3, implies_true, forall_const, Nat.reduceMul, reduceIte, reduceCtorEq, Nat.reduceAdd, Nat.reduceEqDiff, Nat.reduceLT, Nat.reduceLeDiff, by35, by3, ty75, ek, Int.toNat_natCast, v1, B, I, rg, Nat.zero_add, ty2, ty3, ty4, ty5, ty22, ty24, ty25, ty28, ty35, pl35, eq35, ty52, ty56, ty57, Int.reduceEq, Int.reduceLT, Int.reduceLE, decide_true, decide_false, Bool.not_true, Bool.not_false, eq_self, Go.Proofs.Try.results15]))
      · refine ⟨i + 1, by omega, by omega, weak [] [] ?_ ?_ ?_⟩
        · (simp -dsimp only [↓RP, RQ0, RQ1, RQ2, RQ3, implies_true, forall_const, Nat.reduceMul, reduceIte, reduceCtorEq, Nat.reduceAdd, Nat.reduceEqDiff, Nat.reduceLT, Nat.reduceLeDiff]); all_goals simp
        · (simp -dsimp only [↓RP, RQ0, RQ1, RQ2, RQ3, implies_true, forall_const, Nat.reduceMul, reduceIte, reduceCtorEq, Nat.reduceAdd, Nat.reduceEqDiff, Nat.reduceLT, Nat.reduceLeDiff]); all_goals simp
        · (simp -dsimp only [↓RP, RQ0, RQ1, RQ2, RQ3, implies_true, forall_const, Nat.reduceMul, reduceIte, reduceCtorEq, Nat.reduceAdd, Nat.reduceEqDiff, Nat.reduceLT, Nat.reduceLeDiff]); all_goals simp
      all_goals first | (exfalso; omega) | skip
    have hie : i = p.n := by omega
    subst hie
    (repeat' (first | with_reducible refine splitVC_d (fun _ => ?_) (fun _ => ?_) | ((with_reducible refine And.intro ?_ ?_); focus (first | trivial | (simp only [InK]; omega) | omega | (simp only [InK, ne_eq, and_true, true_and]; omega))) | simp -dsimp only [↓RP, RQ0, RQ1, RQ2, RQ3, implies_true, forall_const, Nat.reduceMul, reduceIte, reduceCtorEq, Nat.reduceAdd, Nat.reduceEqDiff, Nat.reduceLT, Nat.reduceLeDiff, by35, by3, ty75, ek, Int.toNat_natCast, B, I, rg, Nat.zero_add, ty2, ty3, ty4, ty5, ty22, ty24, ty25, ty28, ty35, pl35, eq35, ty52, ty56, ty57, Int.reduceEq, Int.reduceLT, Int.reduceLE, decide_true, decide_false, Bool.not_true, Bool.not_false, eq_self, Go.Proofs.Try.results15]))
    all_goals first | (exfalso; omega) | skip
    refine callVC h44 (by (simp -dsimp only [↓RP, RQ0, RQ1, RQ2, RQ3, implies_true, forall_const, Nat.reduceMul, reduceIte, reduceCtorEq, Nat.reduceAdd, Nat.reduceEqDiff, Nat.reduceLT, Nat.reduceLeDiff, Pool.sv, rngs, I, ints]); all_goals (try simp)) (by (simp -dsimp only [↓RP, RQ0, RQ1, RQ2, RQ3, implies_true, forall_const, Nat.reduceMul, reduceIte, reduceCtorEq, Nat.reduceAdd, Nat.reduceEqDiff, Nat.reduceLT, Nat.reduceLeDiff, B, I, rg])) ?_
    (repeat' (first | with_reducible refine splitVC_d (fun _ => ?_) (fun _ => ?_) | ((with_reducible refine And.intro ?_ ?_); focus (first | trivial | (simp only [InK]; omega) | omega | (simp only [InK, ne_eq, and_true, true_and]; omega))) | simp -dsimp only [↓RP, RQ0, RQ1, RQ2, RQ3, implies_true, forall_const, Nat.reduceMul, reduceIte, reduceCtorEq, Nat.reduceAdd, Nat.reduceEqDiff, Nat.reduceLT, Nat.reduceLeDiff, by35, by3, ty75, ek, Int.toNat_natCast, B, I, rg, Nat.zero_add, ty2, ty3, ty4, ty5, ty22, ty24, ty25, ty28, ty35, pl35, eq35, ty52, ty56, ty57, Int.reduceEq, Int.reduceLT, Int.reduceLE, decide_true, decide_false, Bool.not_true, Bool.not_false, eq_self, Go.Proofs.Try.results15]))
    refine callVC h26x (by (simp -dsimp only [↓RP, RQ0, RQ1, RQ2, RQ3, implies_true, forall_const, Nat.reduceMul, reduceIte, reduceCtorEq, Nat.reduceAdd, Nat.reduceEqDiff, Nat.reduceLT, Nat.reduceLeDiff, Pool.sv, rngs, I, ints, Pool.nm]); all_goals (try simp)) (by (simp -dsimp only [↓RP, RQ0, RQ1, RQ2, RQ3, implies_true, forall_const, Nat.reduceMul, reduceIte, reduceCtorEq, Nat.reduceAdd, Nat.reduceEqDiff, Nat.reduceLT, Nat.reduceLeDiff, B, I, rg])) ?_
    (repeat' (first | with_reducible refine splitVC_d (fun _ => ?_) (fun _ => ?_) | ((with_reducible refine And.intro ?_ ?_); focus (first | trivial | (simp only [InK]; omega) | omega | (simp only [InK, ne_eq, and_true, true_and]; omega))) | simp -dsimp only [↓RP, RQ0, RQ1, RQ2, RQ3, implies_true, forall_const, Nat.reduceMul, reduceIte, reduceCtorEq, Nat.reduceAdd, Nat.reduceEqDiff, Nat.reduceLT, Nat.reduceLeDiff, by35, by3, ty75, ek, Int.toNat_natCast, B, I, rg, Nat.zero_add, ty2, ty3, ty4, ty5, ty22, ty24, ty25, ty28, ty35, pl35, eq35, ty52, ty56, ty57, Int.reduceEq, Int.reduceLT, Int.reduceLE, decide_true, decide_false, Bool.not_true, Bool.not_false, eq_self, Go.Proofs.Try.results15]))
    refine callVC h26p (by (simp -dsimp only [↓RP, RQ0, RQ1, RQ2, RQ3, implies_true, forall_const, Nat.reduceMul, reduceIte, reduceCtorEq, Nat.reduceAdd, Nat.reduceEqDiff, Nat.reduceLT, Nat.reduceLeDiff, Pool.sv, rngs, I, ints]); all_goals (try simp)) (by (simp -dsimp only [↓RP, RQ0, RQ1, RQ2, RQ3, implies_true, forall_const, Nat.reduceMul, reduceIte, reduceCtorEq, Nat.reduceAdd, Nat.reduceEqDiff, Nat.reduceLT, Nat.reduceLeDiff, B, I, rg])) ?_
    (repeat' (first | with_reducible refine splitVC_d (fun _ => ?_) (fun _ => ?_) | ((with_reducible refine And.intro ?_ ?_); focus (first | trivial | (simp only [InK]; omega) | omega | (simp only [InK, ne_eq, and_true, true_and]; omega))) | simp -dsimp only [↓RP, RQ0, RQ1, RQ2, RQ3, implies_true, forall_const, Nat.reduceMul, reduceIte, reduceCtorEq, Nat.reduceAdd, Nat.reduceEqDiff, Nat.reduceLT, Nat.reduceLeDiff, by35, by3, ty75, ek, Int.toNat_natCast, B, I, rg, Nat.zero_add, ty2, ty3, ty4, ty5, ty22, ty24, ty25, ty28, ty35, pl35, eq35, ty52, ty56, ty57, Int.reduceEq, Int.reduceLT, Int.reduceLE, decide_true, decide_false, Bool.not_true, Bool.not_false, eq_self, Go.Proofs.Try.results15]))
    refine callVC hw (by (simp -dsimp only [↓RP, RQ0, RQ1, RQ2, RQ3, implies_true, forall_const, Nat.reduceMul, reduceIte, reduceCtorEq, Nat.reduceAdd, Nat.reduceEqDiff, Nat.reduceLT, Nat.reduceLeDiff])) (by (simp -dsimp only [↓RP, RQ0, RQ1, RQ2, RQ3, implies_true, forall_const, Nat.reduceMul, reduceIte, reduceCtorEq, Nat.reduceAdd, Nat.reduceEqDiff, Nat.reduceLT, Nat.reduceLeDiff, B])) ?_
    (repeat' (first | with_reducible refine splitVC_d (fun _ => ?_) (fun _ => ?_) | ((with_reducible refine And.intro ?_ ?_); focus (first | trivial | (simp only [InK]; omega) | omega | (simp only [InK, ne_eq, and_true, true_and]; omega))) | simp -dsimp only [↓RP, RQ0, RQ1, RQ2, RQ3, implies_true, forall_const, Nat.reduceMul, reduceIte, reduceCtorEq, Nat.reduceAdd, Nat.reduceEqDiff, Nat.reduceLT, Nat.reduceLeDiff, by35, by3, ty75, ek, Int.toNat_natCast, B, I, rg, Nat.zero_add, ty2, ty3, ty4, ty5, ty22, ty24, ty25, ty28, ty35, pl35, eq35, ty52, ty56, ty57, Int.reduceEq, Int.reduceLT, Int.reduceLE, decide_true, decide_false, Bool.not_true, Bool.not_false, eq_self, Go.Proofs.Try.results15]))
  · skip
    refine callVC (c34p p he q hq1 hlt hb) (by (simp -dsimp only [↓RP, RQ0, RQ1, RQ2, RQ3, implies_true, forall_const, Nat.reduceMul, reduceIte, reduceCtorEq, Nat.reduceAdd, Nat.reduceEqDiff, Nat.reduceLT, Nat.reduceLeDiff, Pool.sv, rngs, I, ints]); all_goals (try simp)) (by (simp -dsimp only [↓RP, RQ0, RQ1, RQ2, RQ3, implies_true, forall_const, Nat.reduceMul, reduceIte, reduceCtorEq, Nat.reduceAdd, Nat.reduceEqDiff, Nat.reduceLT, Nat.reduceLeDiff, B, I, rg])) ?_
    (repeat' (first | with_reducible refine splitVC_d (fun _ => ?_) (fun _ => ?_) | ((with_reducible refine And.intro ?_ ?_); focus (first | trivial | (simp only [InK]; omega) | omega | (simp only [InK, ne_eq, and_true, true_and]; omega))) | simp -dsimp only [↓RP, RQ0, RQ1, RQ2, RQ3, implies_true, forall_const, Nat.reduceMul, reduceIte, reduceCtorEq, Nat.reduceAdd, Nat.reduceEqDiff, Nat.reduceLT, Nat.reduceLeDiff, by35, by3, ty75, ek, Int.toNat_natCast, B, I, rg, Nat.zero_add, ty2, ty3, ty4, ty5, ty22, ty24, ty25, ty28, ty35, pl35, eq35, ty52, ty56, ty57, Int.reduceEq, Int.reduceLT, Int.reduceLE, decide_true, decide_false, Bool.not_true, Bool.not_false, eq_self, Go.Proofs.Try.results15]))
    refine callVC (c34p (p.nm f) (err_fine hX) 0 (by show 0 < p.n; omega) (fun j hj => by omega) (by have h1 := hdv 0 (by omega); have h2 := (hA (f 0) (hnm.lt 0 (by omega))).2; omega)) (by (simp -dsimp only [↓RP, RQ0, RQ1, RQ2, RQ3, implies_true, forall_const, Nat.reduceMul, reduceIte, reduceCtorEq, Nat.reduceAdd, Nat.reduceEqDiff, Nat.reduceLT, Nat.reduceLeDiff, Pool.sv, rngs, I, ints, Pool.nm]); all_goals (try simp)) (by (simp -dsimp only [↓RP, RQ0, RQ1, RQ2, RQ3, implies_true, forall_const, Nat.reduceMul, reduceIte, reduceCtorEq, Nat.reduceAdd, Nat.reduceEqDiff, Nat.reduceLT, Nat.reduceLeDiff, B, I, rg])) ?_
    (repeat' (first | with_reducible refine splitVC_d (fun _ => ?_) (fun _ => ?_) | ((with_reducible refine And.intro ?_ ?_); focus (first | trivial | (simp only [InK]; omega) | omega | (simp only [InK, ne_eq, and_true, true_and]; omega))) | simp -dsimp only [↓RP, RQ0, RQ1, RQ2, RQ3, implies_true, forall_const, Nat.reduceMul, reduceIte, reduceCtorEq, Nat.reduceAdd, Nat.reduceEqDiff, Nat.reduceLT, Nat.reduceLeDiff, by35, by3, ty75, ek, Int.toNat_natCast, B, I, rg, Nat.zero_add, ty2, ty3, ty4, ty5, ty22, ty24, ty25, ty28, ty35, pl35, eq35, ty52, ty56, ty57, Int.reduceEq, Int.reduceLT, Int.reduceLE, decide_true, decide_false, Bool.not_true, Bool.not_false, eq_self, Go.Proofs.Try.results15]))
    refine loop_vc (fun (i : Nat) => i ≤ 0) (fun i => ⟨[(1, .val (.int .u8 rr)), (2, .val (.int .u32 b)), (4, .ptr 0 0), (9, .val (.int .i64 p.n)), (10, .ptr 15 0), (11, .vec 70 p.n 1), (16, .val (.slice none 0 0)), (18, .val (.slice none 0 0)), (20, .val (.int .i64 i))], [(70, .rows 3 1 p.n (fun a _ => .val (.int .i64 (f a)))), (20, .rows 35 2 p.n (fun a c => .val (.int .i64 (if c = 0 then p.lo (f a) else p.hi (f a))))), (15, .cells 24 [.vec 20 p.n 2, .val (.int .i64 p.per), .val (.int .i64 p.pence), .val (.int .i64 p.keep), .val (.int .i64 p.step)]), (0, pB p)], 122⟩) (fun (i : Nat) => p.n - i) 0 (Nat.zero_le _) (weak [] [] ?_ ?_ ?_) fun i hi => ?_
    · (simp -dsimp only [↓RP, RQ0, RQ1, RQ2, RQ3, implies_true, forall_const, Nat.reduceMul, reduceIte, reduceCtorEq, Nat.reduceAdd, Nat.reduceEqDiff, Nat.reduceLT, Nat.reduceLeDiff]); all_goals simp
    · (simp -dsimp only [↓RP, RQ0, RQ1, RQ2, RQ3, implies_true, forall_const, Nat.reduceMul, reduceIte, reduceCtorEq, Nat.reduceAdd, Nat.reduceEqDiff, Nat.reduceLT, Nat.reduceLeDiff]); all_goals simp
    · (simp -dsimp only [↓RP, RQ0, RQ1, RQ2, RQ3, implies_true, forall_const, Nat.reduceMul, reduceIte, reduceCtorEq, Nat.reduceAdd, Nat.reduceEqDiff, Nat.reduceLT, Nat.reduceLeDiff]); all_goals simp
    have hie : i = 0 := by omega
    subst hie
    (repeat' (first | with_reducible refine splitVC_d (fun _ => ?_) (fun _ => ?_) | ((with_reducible refine And.intro ?_ ?_); focus (first | trivial | (simp only [InK]; omega) | omega | (simp only [InK, ne_eq, and_true, true_and]; omega))) | simp -dsimp only [↓RP, RQ0, RQ1, RQ2, RQ3, implies_true, forall_const, Nat.reduceMul, reduceIte, reduceCtorEq, Nat.reduceAdd, Nat.reduceEqDiff, Nat.reduceLT, Nat.reduceLeDiff, by35, by3, ty75, ek, Int.toNat_natCast, B, I, rg, Nat.zero_add, ty2, ty3, ty4, ty5, ty22, ty24, ty25, ty28, ty35, pl35, eq35, ty52, ty56, ty57, Int.reduceEq, Int.reduceLT, Int.reduceLE, decide_true, decide_false, Bool.not_true, Bool.not_false, eq_self, Go.Proofs.Try.results15]))
    all_goals first | (exfalso; omega) | skip
    refine callVC h44 (by (simp -dsimp only [↓RP, RQ0, RQ1, RQ2, RQ3, implies_true, forall_const, Nat.reduceMul, reduceIte, reduceCtorEq, Nat.reduceAdd, Nat.reduceEqDiff, Nat.reduceLT, Nat.reduceLeDiff, Pool.sv, rngs, I, ints]); all_goals (try simp)) (by (simp -dsimp only [↓RP, RQ0, RQ1, RQ2, RQ3, implies_true, forall_const, Nat.reduceMul, reduceIte, reduceCtorEq, Nat.reduceAdd, Nat.reduceEqDiff, Nat.reduceLT, Nat.reduceLeDiff, B, I, rg])) ?_
    (repeat' (first | with_reducible refine splitVC_d (fun _ => ?_) (fun _ => ?_) | ((with_reducible refine And.intro ?_ ?_); focus (first | trivial | (simp only [InK]; omega) | omega | (simp only [InK, ne_eq, and_true, true_and]; omega))) | simp -dsimp only [↓RP, RQ0, RQ1, RQ2, RQ3, implies_true, forall_const, Nat.reduceMul, reduceIte, reduceCtorEq, Nat.reduceAdd, Nat.reduceEqDiff, Nat.reduceLT, Nat.reduceLeDiff, by35, by3, ty75, ek, Int.toNat_natCast, B, I, rg, Nat.zero_add, ty2, ty3, ty4, ty5, ty22, ty24, ty25, ty28, ty35, pl35, eq35, ty52, ty56, ty57, Int.reduceEq, Int.reduceLT, Int.reduceLE, decide_true, decide_false, Bool.not_true, Bool.not_false, eq_self, Go.Proofs.Try.results15]))
    refine callVC h26x (by (simp -dsimp only [↓RP, RQ0, RQ1, RQ2, RQ3, implies_true, forall_const, Nat.reduceMul, reduceIte, reduceCtorEq, Nat.reduceAdd, Nat.reduceEqDiff, Nat.reduceLT, Nat.reduceLeDiff, Pool.sv, rngs, I, ints, Pool.nm]); all_goals (try simp)) (by (simp -dsimp only [↓RP, RQ0, RQ1, RQ2, RQ3, implies_true, forall_const, Nat.reduceMul, reduceIte, reduceCtorEq, Nat.reduceAdd, Nat.reduceEqDiff, Nat.reduceLT, Nat.reduceLeDiff, B, I, rg])) ?_
    (repeat' (first | with_reducible refine splitVC_d (fun _ => ?_) (fun _ => ?_) | ((with_reducible refine And.intro ?_ ?_); focus (first | trivial | (simp only [InK]; omega) | omega | (simp only [InK, ne_eq, and_true, true_and]; omega))) | simp -dsimp only [↓RP, RQ0, RQ1, RQ2, RQ3, implies_true, forall_const, Nat.reduceMul, reduceIte, reduceCtorEq, Nat.reduceAdd, Nat.reduceEqDiff, Nat.reduceLT, Nat.reduceLeDiff, by35, by3, ty75, ek, Int.toNat_natCast, B, I, rg, Nat.zero_add, ty2, ty3, ty4, ty5, ty22, ty24, ty25, ty28, ty35, pl35, eq35, ty52, ty56, ty57, Int.reduceEq, Int.reduceLT, Int.reduceLE, decide_true, decide_false, Bool.not_true, Bool.not_false, eq_self, Go.Proofs.Try.results15]))
    refine callVC h26p (by (simp -dsimp only [↓RP, RQ0, RQ1, RQ2, RQ3, implies_true, forall_const, Nat.reduceMul, reduceIte, reduceCtorEq, Nat.reduceAdd, Nat.reduceEqDiff, Nat.reduceLT, Nat.reduceLeDiff, Pool.sv, rngs, I, ints]); all_goals (try simp)) (by (simp -dsimp only [↓RP, RQ0, RQ1, RQ2, RQ3, implies_true, forall_const, Nat.reduceMul, reduceIte, reduceCtorEq, Nat.reduceAdd, Nat.reduceEqDiff, Nat.reduceLT, Nat.reduceLeDiff, B, I, rg])) ?_
    (repeat' (first | with_reducible refine splitVC_d (fun _ => ?_) (fun _ => ?_) | ((with_reducible refine And.intro ?_ ?_); focus (first | trivial | (simp only [InK]; omega) | omega | (simp only [InK, ne_eq, and_true, true_and]; omega))) | simp -dsimp only [↓RP, RQ0, RQ1, RQ2, RQ3, implies_true, forall_const, Nat.reduceMul, reduceIte, reduceCtorEq, Nat.reduceAdd, Nat.reduceEqDiff, Nat.reduceLT, Nat.reduceLeDiff, by35, by3, ty75, ek, Int.toNat_natCast, B, I, rg, Nat.zero_add, ty2, ty3, ty4, ty5, ty22, ty24, ty25, ty28, ty35, pl35, eq35, ty52, ty56, ty57, Int.reduceEq, Int.reduceLT, Int.reduceLE, decide_true, decide_false, Bool.not_true, Bool.not_false, eq_self, Go.Proofs.Try.results15]))
    refine callVC hw (by (simp -dsimp only [↓RP, RQ0, RQ1, RQ2, RQ3, implies_true, forall_const, Nat.reduceMul, reduceIte, reduceCtorEq, Nat.reduceAdd, Nat.reduceEqDiff, Nat.reduceLT, Nat.reduceLeDiff])) (by (simp -dsimp only [↓RP, RQ0, RQ1, RQ2, RQ3, implies_true, forall_const, Nat.reduceMul, reduceIte, reduceCtorEq, Nat.reduceAdd, Nat.reduceEqDiff, Nat.reduceLT, Nat.reduceLeDiff, B])) ?_
    (repeat' (first | with_reducible refine splitVC_d (fun _ => ?_) (fun _ => ?_) | ((with_reducible refine And.intro ?_ ?_); focus (first | trivial | (simp only [InK]; omega) | omega | (simp only [InK, ne_eq, and_true, true_and]; omega))) | simp -dsimp only [↓RP, RQ0, RQ1, RQ2, RQ3, implies_true, forall_const, Nat.reduceMul, reduceIte, reduceCtorEq, Nat.reduceAdd, Nat.reduceEqDiff, Nat.reduceLT, Nat.reduceLeDiff, by35, by3, ty75, ek, Int.toNat_natCast, B, I, rg, Nat.zero_add, ty2, ty3, ty4, ty5, ty22, ty24, ty25, ty28, ty35, pl35, eq35, ty52, ty56, ty57, Int.reduceEq, Int.reduceLT, Int.reduceLE, decide_true, decide_false, Bool.not_true, Bool.not_false, eq_self, Go.Proofs.Try.results15]))
end Go.Po
end
