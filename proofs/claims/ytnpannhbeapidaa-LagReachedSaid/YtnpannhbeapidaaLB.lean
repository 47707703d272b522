/- A part of the proof. -/
import Derived.Test.YtnpannhbeapidaaLA
section
set_option linter.unusedSimpArgs false
set_option linter.unusedVariables false
set_option maxRecDepth 100000
set_option maxHeartbeats 4000000
namespace Go.Lg
open Go.Sx
def fw (c : Curve) (full : Bool) (j : Nat) : Int := if full = true then c.M j else 0
abbrev bdC (c : Curve) (mid : Nat) (full : Bool) (top : Nat) : Blk := .cells 100 [.arr false false c.m 1 (fun i _ => .val (.int .i64 (c.u i))), .mp mid, .val (.int .i64 (fw c full 0)), .val (.int .i64 (fw c full 1)), .val (.int .i64 (fw c full 2)), .val (.int .i64 (fw c full 3)), .val (.int .i64 (fw c full 4)), .val (.int .i64 (fw c full 5)), .val (.int .i64 (fw c full 6)), .val (.int .i64 top)]
abbrev bdM (c : Curve) (top : Nat) : Blk := .map (keyFit true [.i .i64]) (kdom top) (kget c)
theorem c86 (c : Curve) (t : Int) : Contract Go.Proofs.Try.prog 86 [.agg [c.sv], I t] (.fn (.func 98) [] [.ref true 1 (fun _ => c.sv), .ref true 1 (fun _ => I t)]) := by
  refine contract_of Go.Proofs.Try.func86 rfl (by kernel_rfl) follows (by kernel_rfl) _ _ (by rw [Go.Proofs.Try.ntmps86]; simp) (by simp [OldL, Old, c.old]; simp [Old, I]) ?_
  unfold I Curve.sv ints
  (repeat' (first | with_reducible refine splitVC_d (fun _ => ?_) (fun _ => ?_) | ((with_reducible refine And.intro ?_ ?_); focus (first | trivial | (simp only [InK]; omega) | omega | (simp only [InK, ne_eq, and_true, true_and]; omega))) | simp -dsimp only [↓RP, RQ0, RQ1, RQ2, RQ3, implies_true, forall_const, Nat.reduceMul, reduceIte, reduceCtorEq, Nat.reduceAdd, Nat.reduceEqDiff, Nat.reduceLT, Nat.reduceLeDiff, ty2, ty3, ty93, ty102, Go.Proofs.Try.results86]))
  refine ⟨fun j hj => ?_, fun j hj => ?_⟩
  · have : j = 0 := by omega
    subst this; (simp -dsimp only [↓RP, RQ0, RQ1, RQ2, RQ3, implies_true, forall_const, Nat.reduceMul, reduceIte, reduceCtorEq, Nat.reduceAdd, Nat.reduceEqDiff, Nat.reduceLT, Nat.reduceLeDiff]); all_goals simp
  · have : j = 0 := by omega
    subst this; simp
def zf (c : Curve) (full : Bool) : Prop := ∀ j, j < 7 → fw c full j = 0
instance (c : Curve) (full : Bool) : Decidable (zf c full) := by unfold zf; infer_instance
theorem zf_eq (c : Curve) (full : Bool) : (decide (fw c full 0 = 0) && (decide (fw c full 1 = 0) && (decide (fw c full 2 = 0) && (decide (fw c full 3 = 0) && (decide (fw c full 4 = 0) && (decide (fw c full 5 = 0) && decide (fw c full 6 = 0))))))) = decide (zf c full) := by
  rw [Bool.eq_iff_iff]
  simp only [Bool.and_eq_true, decide_eq_true_eq]
  constructor
  · rintro ⟨h0, h1, h2, h3, h4, h5, h6⟩ j hj
    have : j = 0 ∨ j = 1 ∨ j = 2 ∨ j = 3 ∨ j = 4 ∨ j = 5 ∨ j = 6 := by omega
    rcases this with rfl | rfl | rfl | rfl | rfl | rfl | rfl <;> assumption
  · intro h
    exact ⟨h 0 (by omega), h 1 (by omega), h 2 (by omega), h 3 (by omega), h 4 (by omega), h 5 (by omega), h 6 (by omega)⟩
theorem few_get (c : Curve) (full : Bool) (a b t : SV) : ∀ k, k < 7 → [a, b, .val (.int .i64 (fw c full 0)), .val (.int .i64 (fw c full 1)), .val (.int .i64 (fw c full 2)), .val (.int .i64 (fw c full 3)), .val (.int .i64 (fw c full 4)), .val (.int .i64 (fw c full 5)), .val (.int .i64 (fw c full 6)), t][2 + k]? = some (.val (.int .i64 (fw c full k))) := by
  intro k hk
  have : k = 0 ∨ k = 1 ∨ k = 2 ∨ k = 3 ∨ k = 4 ∨ k = 5 ∨ k = 6 := by omega
  rcases this with rfl | rfl | rfl | rfl | rfl | rfl | rfl <;> rfl
abbrev bdI (c : Curve) (mid : Nat) (full : Bool) (t : Int) : Blk := .cells 100 [.arr false false c.m 1 (fun i _ => .val (.int .i64 (c.u i))), .mp mid, .val (.int .i64 (fw c full 0)), .val (.int .i64 (fw c full 1)), .val (.int .i64 (fw c full 2)), .val (.int .i64 (fw c full 3)), .val (.int .i64 (fw c full 4)), .val (.int .i64 (fw c full 5)), .val (.int .i64 (fw c full 6)), .val (.int .i64 t)]
def selI : Bool → Int → Int → Int
  | true, a, _ => a
  | false, _, b => b
def selB : Bool → Bool → Blk → Blk → Blk → Blk
  | _, true, _, _, z => z
  | true, false, _, y, _ => y
  | false, false, x, _, _ => x
def mpA (c : Curve) : Blk := .map (keyFit true [.i .i64]) (fun _ => false) (kget c)
def mpB (c : Curve) (stamp : Value → Nat) (clk : Nat) : Blk := .mapS (keyFit true [.i .i64]) (putDom (fun _ => false) (bk 0)) (putGet (kget c) (bk 0) (.val (.int .i64 0))) stamp clk
def mpC (c : Curve) : Blk := .map (keyFit true [.i .i64]) (kdom 0) (kget c)
theorem mpC_eq (c : Curve) : (.map (keyFit true [.i .i64]) (putDom (fun _ => false) (bk 0)) (putGet (putGet (kget c) (bk 0) (.val (.int .i64 0))) (bk 0) (.val (.int .i64 0))) : Blk) = mpC c := by
  unfold mpC
  rw [kdom_zero]
  congr 1
  exact kget_put2 c _ 0
theorem e64 (c : Curve) (h : c.Fine) (full : Bool) (top turns : Nat) (ht : top ≤ 400) (hu : turns ≤ 400) (bid mid id : Nat) (rest : List (Nat × Blk)) (hbm : bid ≠ mid) (hb : bid < id) (hm : mid < id) (hr : Under rest id) :
    EffVC Go.Proofs.Try.prog 64 [.ptr bid 0, I turns] ((bid, bdC c mid full top) :: (mid, bdM c top) :: rest) id (fun hp' nid' res => ∃ top', top' ≤ 400 ∧ hp' = (bid, bdC c mid full top') :: (mid, bdM c top') :: rest ∧ id ≤ nid' ∧ res = I (c.M turns)) := by
  refine eff_ofF (handAt 5) follows Go.Proofs.Try.func64 rfl (by kernel_rfl) (by kernel_rfl) (by rw [Go.Proofs.Try.ntmps64]; simp) fun out => ?_
  have h1 := h.m1
  have h6 := h.m6
  have NB := names2 hbm hb hm
  have hz := zf_eq c full
  unfold I
  by_cases hfast : turns < 7 ∧ ¬ zf c full
  · have hg := fun a b t => few_get c full a b t turns hfast.1
    (repeat' (first | with_reducible refine splitVC_d (fun _ => ?_) (fun _ => ?_) | ((with_reducible refine And.intro ?_ ?_); focus (first | trivial | (simp only [InK]; omega) | omega | (simp only [InK, ne_eq, and_true, true_and]; omega))) | simp -dsimp only [↓RP, RQ0, RQ1, RQ2, RQ3, implies_true, forall_const, Nat.reduceMul, reduceIte, reduceCtorEq, Nat.reduceAdd, Nat.reduceEqDiff, Nat.reduceLT, Nat.reduceLeDiff, hz, hg, NB, Nat.add_zero, Nat.add_assoc, TY, Int.toNat_natCast, effK_ret, effK_normal, Go.Proofs.Try.results64]))
    all_goals first | (exfalso; omega) | (exfalso; exact hfast.2 (by assumption)) | skip
    have hfull : full = true := by
      cases full with
      | true => rfl
      | false => exact absurd (fun j _ => rfl) hfast.2
    refine ⟨_, _, _, weakS (fr' := [(0, .val (.int .i64 (fw c full turns)))]) ⟨.inr rfl, trivial⟩ (SubHp.skip ?_ (SubHp.refl _)), top, ht, rfl, by omega, by rw [hfull]; rfl⟩
    simp only [blk, NB, if_false]
    exact hr.none (Nat.le_refl _)
  apply shareLoop (P := Go.Proofs.Try.prog) (O := ⟨out, id, false, handAt 5⟩) (fun (x : Nat × Nat) => x.1 ≤ 400 ∧ x.1 ≤ turns + 6 ∧ id + 1 ≤ x.2) (fun x => ⟨[(1, .val (.int .i64 turns)), (2, .ptr id 0)], (id, .cells 77 [.ptr bid 0]) :: (bid, bdC c mid full x.1) :: (mid, bdM c x.1) :: rest, x.2⟩)
  case main =>
   intro key
   (repeat' (first | with_reducible refine splitVC_d (fun _ => ?_) (fun _ => ?_) | ((with_reducible refine And.intro ?_ ?_); focus (first | trivial | (simp only [InK]; omega) | omega | (simp only [InK, ne_eq, and_true, true_and]; omega))) | simp -dsimp only [↓RP, RQ0, RQ1, RQ2, RQ3, implies_true, forall_const, Nat.reduceMul, reduceIte, reduceCtorEq, Nat.reduceAdd, Nat.reduceEqDiff, Nat.reduceLT, Nat.reduceLeDiff, hz, NB, Nat.add_zero, Nat.add_assoc, TY, Int.toNat_natCast, effK_ret, effK_normal, Go.Proofs.Try.results64]))
   all_goals first | (exfalso; omega) | skip
   all_goals first | (exfalso; exact hfast ⟨by omega, by assumption⟩) | skip
   · refine rawRegion follows (fun m st => ∃ (stamp : Value → Nat) (clk nid : Nat), id + 1 ≤ nid ∧ st = ⟨[(1, .val (.int .i64 turns)), (2, .ptr id 0), (36, up (m.testBit 0) (.ptr bid 0)), (37, up (m.testBit 1) (.ptr bid 0)), (38, up (m.testBit 2) (.ptr bid 1)), (39, up (m.testBit 3) (.mp mid)), (40, up (m.testBit 4) (.agg [.val (.int .i64 0)])), (41, up (m.testBit 5) (.ptr bid 0)), (42, up (m.testBit 6) (.tup [.val (.int .i64 0), .val (.int .i64 (stamp (bk 0)))])), (43, up (m.testBit 7) (.val (.int .i64 (stamp (bk 0))))), (44, up (m.testBit 9) (.ptr bid 0)), (45, up (m.testBit 10) (.ptr bid 9))],
       (id, .cells 77 [.ptr bid 0]) :: (bid, bdI c mid full (selI (m.testBit 11) 0 top)) :: (mid, selB (m.testBit 6) (m.testBit 8) (mpA c) (mpB c stamp clk) (mpC c)) :: rest, nid⟩) (ms := [0, 1, 3, 7, 0, 0, 31, 95, 223, 511, 1023, 2047]) (by kernel_rfl) (by kernel_rfl) (weakS (by simp [SubFr, Go.Sx.look, Go.Sx.up]) (fun k x hx => hx)) ⟨fun _ => 0, 0, _, by omega, rfl⟩ (stepsH_cons ?_ <| stepsH_cons ?_ <| stepsH_cons ?_ <| stepsH_cons ?_ <| stepsH_cons ?_ <| stepsH_cons ?_ <| stepsH_cons ?_ <| stepsH_cons ?_ <| stepsH_cons ?_ <| stepsH_cons ?_ <| stepsH_cons ?_ <| stepsH_cons ?_ <| stepsH_nil) ?_
     · rintro m st ⟨stamp, clk, nid, hn, rfl⟩ hcl hbit hd
       unfold opH
       rw [guardVC_none]
       simp only [hbit, up_true, up_false, selI]
       refine .inl ?_
       (simp -dsimp only [↓RP, RQ0, RQ1, RQ2, RQ3, implies_true, forall_const, Nat.reduceMul, reduceIte, reduceCtorEq, Nat.reduceAdd, Nat.reduceEqDiff, Nat.reduceLT, Nat.reduceLeDiff, hn, NB, Nat.add_zero, Nat.add_assoc, TY, Int.toNat_natCast, effK_ret, effK_normal, Go.Proofs.Try.results64])
       refine ⟨_, Weak.refl _ _, stamp, clk, nid + 1, by omega, ?_⟩
       simp only [tb, Nat.reduceEqDiff, Nat.succ_ne_self, Nat.zero_ne_one, Nat.one_ne_zero, decide_false, decide_true, Bool.or_false, Bool.or_true, Bool.false_or, up_true, up_false, hbit, selI]
     · rintro m st ⟨stamp, clk, nid, hn, rfl⟩ hcl hbit hd
       have q0 := hd 0 (by decide) (by decide)
       unfold opH
       rw [guardVC_none]
       simp only [q0, hbit, up_true, up_false, selI]
       refine .inl ?_
       (simp -dsimp only [↓RP, RQ0, RQ1, RQ2, RQ3, implies_true, forall_const, Nat.reduceMul, reduceIte, reduceCtorEq, Nat.reduceAdd, Nat.reduceEqDiff, Nat.reduceLT, Nat.reduceLeDiff, hn, NB, Nat.add_zero, Nat.add_assoc, TY, Int.toNat_natCast, effK_ret, effK_normal, Go.Proofs.Try.results64])
       refine ⟨_, Weak.refl _ _, stamp, clk, nid + 1, by omega, ?_⟩
       simp only [tb, Nat.reduceEqDiff, Nat.succ_ne_self, Nat.zero_ne_one, Nat.one_ne_zero, decide_false, decide_true, Bool.or_false, Bool.or_true, Bool.false_or, up_true, up_false, q0, hbit, selI]
     · rintro m st ⟨stamp, clk, nid, hn, rfl⟩ hcl hbit hd
       have q1 := hd 1 (by decide) (by decide)
       unfold opH
       rw [guardVC_none]
       simp only [q1, hbit, up_true, up_false, selI]
       refine .inl ?_
       (simp -dsimp only [↓RP, RQ0, RQ1, RQ2, RQ3, implies_true, forall_const, Nat.reduceMul, reduceIte, reduceCtorEq, Nat.reduceAdd, Nat.reduceEqDiff, Nat.reduceLT, Nat.reduceLeDiff, hn, NB, Nat.add_zero, Nat.add_assoc, TY, Int.toNat_natCast, effK_ret, effK_normal, Go.Proofs.Try.results64])
       refine ⟨_, Weak.refl _ _, stamp, clk, nid + 1, by omega, ?_⟩
       simp only [tb, Nat.reduceEqDiff, Nat.succ_ne_self, Nat.zero_ne_one, Nat.one_ne_zero, decide_false, decide_true, Bool.or_false, Bool.or_true, Bool.false_or, up_true, up_false, q1, hbit, selI]
     · rintro m st ⟨stamp, clk, nid, hn, rfl⟩ hcl hbit hd
       have q2 := hd 2 (by decide) (by decide)
       unfold opH
       rw [guardVC_none]
       simp only [q2, hbit, up_true, up_false, selI]
       refine .inl ?_
       (simp -dsimp only [↓RP, RQ0, RQ1, RQ2, RQ3, implies_true, forall_const, Nat.reduceMul, reduceIte, reduceCtorEq, Nat.reduceAdd, Nat.reduceEqDiff, Nat.reduceLT, Nat.reduceLeDiff, hn, NB, Nat.add_zero, Nat.add_assoc, TY, Int.toNat_natCast, effK_ret, effK_normal, Go.Proofs.Try.results64])
       refine ⟨_, Weak.refl _ _, stamp, clk, nid + 1, by omega, ?_⟩
       simp only [tb, Nat.reduceEqDiff, Nat.succ_ne_self, Nat.zero_ne_one, Nat.one_ne_zero, decide_false, decide_true, Bool.or_false, Bool.or_true, Bool.false_or, up_true, up_false, q2, hbit, selI]
     · rintro m st ⟨stamp, clk, nid, hn, rfl⟩ hcl hbit hd
       unfold opH
       rw [guardVC_none]
       simp only [hbit, up_true, up_false, selI]
       refine .inl ?_
       (simp -dsimp only [↓RP, RQ0, RQ1, RQ2, RQ3, implies_true, forall_const, Nat.reduceMul, reduceIte, reduceCtorEq, Nat.reduceAdd, Nat.reduceEqDiff, Nat.reduceLT, Nat.reduceLeDiff, hn, NB, Nat.add_zero, Nat.add_assoc, TY, Int.toNat_natCast, effK_ret, effK_normal, Go.Proofs.Try.results64])
       refine ⟨_, Weak.refl _ _, stamp, clk, nid + 1, by omega, ?_⟩
       simp only [tb, Nat.reduceEqDiff, Nat.succ_ne_self, Nat.zero_ne_one, Nat.one_ne_zero, decide_false, decide_true, Bool.or_false, Bool.or_true, Bool.false_or, up_true, up_false, hbit, selI]
     · rintro m st ⟨stamp, clk, nid, hn, rfl⟩ hcl hbit hd
       unfold opH
       rw [guardVC_none]
       simp only [hbit, up_true, up_false, selI]
       refine .inl ?_
       (simp -dsimp only [↓RP, RQ0, RQ1, RQ2, RQ3, implies_true, forall_const, Nat.reduceMul, reduceIte, reduceCtorEq, Nat.reduceAdd, Nat.reduceEqDiff, Nat.reduceLT, Nat.reduceLeDiff, hn, NB, Nat.add_zero, Nat.add_assoc, TY, Int.toNat_natCast, effK_ret, effK_normal, Go.Proofs.Try.results64])
       refine ⟨_, Weak.refl _ _, stamp, clk, nid + 1, by omega, ?_⟩
       simp only [tb, Nat.reduceEqDiff, Nat.succ_ne_self, Nat.zero_ne_one, Nat.one_ne_zero, decide_false, decide_true, Bool.or_false, Bool.or_true, Bool.false_or, up_true, up_false, hbit, selI]
     · rintro m st ⟨stamp, clk, nid, hn, rfl⟩ hcl hbit hd
       have q3 := hd 3 (by decide) (by decide)
       have q4 := hd 4 (by decide) (by decide)
       have q7 : m.testBit 7 = false := Bool.eq_false_iff.2 fun h => by have := hcl 7 6 (by decide) h; rw [hbit] at this; cases this
       have q8 : m.testBit 8 = false := Bool.eq_false_iff.2 fun h => by have := hcl 8 6 (by decide) h; rw [hbit] at this; cases this
       unfold opH
       rw [guardVC_none]
       simp only [q3, q4, q7, q8, hbit, up_true, up_false, selB]
       refine .inr ⟨rfl, .inl (mEntry_vc (dom := fun _ => false) (get := kget c) (mid := mid) (by rfl) (v := bk 0) (by rfl) mi96 (by (simp -dsimp only [↓RP, RQ0, RQ1, RQ2, RQ3, implies_true, forall_const, Nat.reduceMul, reduceIte, reduceCtorEq, Nat.reduceAdd, Nat.reduceEqDiff, Nat.reduceLT, Nat.reduceLeDiff, NB, mpA])) (by rfl) (by rfl) fun st' clk' => ?_)⟩
       refine ⟨_, Weak.refl _ _, st', clk', nid, hn, ?_⟩
       (simp -dsimp only [↓RP, RQ0, RQ1, RQ2, RQ3, implies_true, forall_const, Nat.reduceMul, reduceIte, reduceCtorEq, Nat.reduceAdd, Nat.reduceEqDiff, Nat.reduceLT, Nat.reduceLeDiff, NB])
       simp only [tb, Nat.reduceEqDiff, Nat.succ_ne_self, Nat.zero_ne_one, Nat.one_ne_zero, decide_false, decide_true, Bool.or_false, Bool.or_true, Bool.false_or, up_true, up_false, q3, q4, q7, q8, hbit, selB, mpB]
     · rintro m st ⟨stamp, clk, nid, hn, rfl⟩ hcl hbit hd
       have q6 := hd 6 (by decide) (by decide)
       unfold opH
       rw [guardVC_none]
       simp only [q6, hbit, up_true, up_false, selI]
       refine .inl ?_
       (simp -dsimp only [↓RP, RQ0, RQ1, RQ2, RQ3, implies_true, forall_const, Nat.reduceMul, reduceIte, reduceCtorEq, Nat.reduceAdd, Nat.reduceEqDiff, Nat.reduceLT, Nat.reduceLeDiff, hn, NB, Nat.add_zero, Nat.add_assoc, TY, Int.toNat_natCast, effK_ret, effK_normal, Go.Proofs.Try.results64])
       refine ⟨_, Weak.refl _ _, stamp, clk, nid + 1, by omega, ?_⟩
       simp only [tb, Nat.reduceEqDiff, Nat.succ_ne_self, Nat.zero_ne_one, Nat.one_ne_zero, decide_false, decide_true, Bool.or_false, Bool.or_true, Bool.false_or, up_true, up_false, q6, hbit, selI]
     · rintro m st ⟨stamp, clk, nid, hn, rfl⟩ hcl hbit hd
       have q3 := hd 3 (by decide) (by decide)
       have q7 := hd 7 (by decide) (by decide)
       have q6 := hd 6 (by decide) (by decide)
       unfold opH
       rw [guardVC_none]
       simp only [q3, q7, q6, hbit, up_true, up_false, selB]
       refine .inr ⟨rfl, .inr (mStore_vc (kt := 95) (v := bk 0) (mid := mid) (ag := true) (ls := [.i .i64]) (dom := putDom (fun _ => false) (bk 0)) (get := putGet (kget c) (bk 0) (.val (.int .i64 0))) (stamp := stamp) (clk := clk) (by kernel_rfl) (by rfl) (by rfl) (by rfl) (by (simp -dsimp only [↓RP, RQ0, RQ1, RQ2, RQ3, implies_true, forall_const, Nat.reduceMul, reduceIte, reduceCtorEq, Nat.reduceAdd, Nat.reduceEqDiff, Nat.reduceLT, Nat.reduceLeDiff, NB, mpB])) (by rfl) ?_)⟩
       refine ⟨_, Weak.refl _ _, stamp, clk, nid, hn, ?_⟩
       (simp -dsimp only [↓RP, RQ0, RQ1, RQ2, RQ3, implies_true, forall_const, Nat.reduceMul, reduceIte, reduceCtorEq, Nat.reduceAdd, Nat.reduceEqDiff, Nat.reduceLT, Nat.reduceLeDiff, NB])
       simp only [tb, Nat.reduceEqDiff, Nat.succ_ne_self, Nat.zero_ne_one, Nat.one_ne_zero, decide_false, decide_true, Bool.or_false, Bool.or_true, Bool.false_or, up_true, up_false, q3, q7, q6, hbit, selB, mpC_eq]
     · rintro m st ⟨stamp, clk, nid, hn, rfl⟩ hcl hbit hd
       have q5 := hd 5 (by decide) (by decide)
       unfold opH
       rw [guardVC_none]
       simp only [q5, hbit, up_true, up_false, selI]
       refine .inl ?_
       (simp -dsimp only [↓RP, RQ0, RQ1, RQ2, RQ3, implies_true, forall_const, Nat.reduceMul, reduceIte, reduceCtorEq, Nat.reduceAdd, Nat.reduceEqDiff, Nat.reduceLT, Nat.reduceLeDiff, hn, NB, Nat.add_zero, Nat.add_assoc, TY, Int.toNat_natCast, effK_ret, effK_normal, Go.Proofs.Try.results64])
       refine ⟨_, Weak.refl _ _, stamp, clk, nid + 1, by omega, ?_⟩
       simp only [tb, Nat.reduceEqDiff, Nat.succ_ne_self, Nat.zero_ne_one, Nat.one_ne_zero, decide_false, decide_true, Bool.or_false, Bool.or_true, Bool.false_or, up_true, up_false, q5, hbit, selI]
     · rintro m st ⟨stamp, clk, nid, hn, rfl⟩ hcl hbit hd
       have q9 := hd 9 (by decide) (by decide)
       unfold opH
       rw [guardVC_none]
       simp only [q9, hbit, up_true, up_false, selI]
       refine .inl ?_
       (simp -dsimp only [↓RP, RQ0, RQ1, RQ2, RQ3, implies_true, forall_const, Nat.reduceMul, reduceIte, reduceCtorEq, Nat.reduceAdd, Nat.reduceEqDiff, Nat.reduceLT, Nat.reduceLeDiff, hn, NB, Nat.add_zero, Nat.add_assoc, TY, Int.toNat_natCast, effK_ret, effK_normal, Go.Proofs.Try.results64])
       refine ⟨_, Weak.refl _ _, stamp, clk, nid + 1, by omega, ?_⟩
       simp only [tb, Nat.reduceEqDiff, Nat.succ_ne_self, Nat.zero_ne_one, Nat.one_ne_zero, decide_false, decide_true, Bool.or_false, Bool.or_true, Bool.false_or, up_true, up_false, q9, hbit, selI]
     · rintro m st ⟨stamp, clk, nid, hn, rfl⟩ hcl hbit hd
       have q10 := hd 10 (by decide) (by decide)
       unfold opH
       rw [guardVC_none]
       simp only [q10, hbit, up_true, up_false, selI]
       refine .inl ?_
       (simp -dsimp only [↓RP, RQ0, RQ1, RQ2, RQ3, implies_true, forall_const, Nat.reduceMul, reduceIte, reduceCtorEq, Nat.reduceAdd, Nat.reduceEqDiff, Nat.reduceLT, Nat.reduceLeDiff, hn, NB, Nat.add_zero, Nat.add_assoc, TY, Int.toNat_natCast, effK_ret, effK_normal, Go.Proofs.Try.results64])
       refine ⟨_, Weak.refl _ _, stamp, clk, nid + 1, by omega, ?_⟩
       simp only [tb, Nat.reduceEqDiff, Nat.succ_ne_self, Nat.zero_ne_one, Nat.one_ne_zero, decide_false, decide_true, Bool.or_false, Bool.or_true, Bool.false_or, up_true, up_false, q10, hbit, selI]
     · rintro m st' ⟨stamp, clk, nid, hn, rfl⟩ hall
       simp only [hall 0 (by decide), hall 1 (by decide), hall 2 (by decide), hall 3 (by decide), hall 4 (by decide), hall 5 (by decide), hall 6 (by decide), hall 7 (by decide), hall 8 (by decide), hall 9 (by decide), hall 10 (by decide), hall 11 (by decide), up_true, selI, selB, mpC]
       (simp -dsimp only [↓RP, RQ0, RQ1, RQ2, RQ3, implies_true, forall_const, Nat.reduceMul, reduceIte, reduceCtorEq, Nat.reduceAdd, Nat.reduceEqDiff, Nat.reduceLT, Nat.reduceLeDiff, NB, Nat.add_zero, Nat.add_assoc, TY, Int.toNat_natCast, effK_ret, effK_normal, Go.Proofs.Try.results64])
       refine LoopOr.weak (key (0, _) ?_) (weakS ?_ (SubHp.refl _))
       · refine ⟨?_, ?_, ?_⟩ <;> simp only [] <;> omega
       · simp [SubFr, Go.Sx.look]
   · refine LoopOr.weak (key (top, _) ?_) (weakS ?_ (SubHp.refl _))
     · refine ⟨?_, ?_, ?_⟩ <;> simp only [] <;> omega
     · simp [SubFr, Go.Sx.look]
   · refine rawRegion follows (fun m st => ∃ (stamp : Value → Nat) (clk nid : Nat), id + 1 ≤ nid ∧ st = ⟨[(1, .val (.int .i64 turns)), (2, .ptr id 0), (36, up (m.testBit 0) (.ptr bid 0)), (37, up (m.testBit 1) (.ptr bid 0)), (38, up (m.testBit 2) (.ptr bid 1)), (39, up (m.testBit 3) (.mp mid)), (40, up (m.testBit 4) (.agg [.val (.int .i64 0)])), (41, up (m.testBit 5) (.ptr bid 0)), (42, up (m.testBit 6) (.tup [.val (.int .i64 0), .val (.int .i64 (stamp (bk 0)))])), (43, up (m.testBit 7) (.val (.int .i64 (stamp (bk 0))))), (44, up (m.testBit 9) (.ptr bid 0)), (45, up (m.testBit 10) (.ptr bid 9))],
       (id, .cells 77 [.ptr bid 0]) :: (bid, bdI c mid full (selI (m.testBit 11) 0 top)) :: (mid, selB (m.testBit 6) (m.testBit 8) (mpA c) (mpB c stamp clk) (mpC c)) :: rest, nid⟩) (ms := [0, 1, 3, 7, 0, 0, 31, 95, 223, 511, 1023, 2047]) (by kernel_rfl) (by kernel_rfl) (weakS (by simp [SubFr, Go.Sx.look, Go.Sx.up]) (fun k x hx => hx)) ⟨fun _ => 0, 0, _, by omega, rfl⟩ (stepsH_cons ?_ <| stepsH_cons ?_ <| stepsH_cons ?_ <| stepsH_cons ?_ <| stepsH_cons ?_ <| stepsH_cons ?_ <| stepsH_cons ?_ <| stepsH_cons ?_ <| stepsH_cons ?_ <| stepsH_cons ?_ <| stepsH_cons ?_ <| stepsH_cons ?_ <| stepsH_nil) ?_
     · rintro m st ⟨stamp, clk, nid, hn, rfl⟩ hcl hbit hd
       unfold opH
       rw [guardVC_none]
       simp only [hbit, up_true, up_false, selI]
       refine .inl ?_
       (simp -dsimp only [↓RP, RQ0, RQ1, RQ2, RQ3, implies_true, forall_const, Nat.reduceMul, reduceIte, reduceCtorEq, Nat.reduceAdd, Nat.reduceEqDiff, Nat.reduceLT, Nat.reduceLeDiff, hn, NB, Nat.add_zero, Nat.add_assoc, TY, Int.toNat_natCast, effK_ret, effK_normal, Go.Proofs.Try.results64])
       refine ⟨_, Weak.refl _ _, stamp, clk, nid + 1, by omega, ?_⟩
       simp only [tb, Nat.reduceEqDiff, Nat.succ_ne_self, Nat.zero_ne_one, Nat.one_ne_zero, decide_false, decide_true, Bool.or_false, Bool.or_true, Bool.false_or, up_true, up_false, hbit, selI]
     · rintro m st ⟨stamp, clk, nid, hn, rfl⟩ hcl hbit hd
       have q0 := hd 0 (by decide) (by decide)
       unfold opH
       rw [guardVC_none]
       simp only [q0, hbit, up_true, up_false, selI]
       refine .inl ?_
       (simp -dsimp only [↓RP, RQ0, RQ1, RQ2, RQ3, implies_true, forall_const, Nat.reduceMul, reduceIte, reduceCtorEq, Nat.reduceAdd, Nat.reduceEqDiff, Nat.reduceLT, Nat.reduceLeDiff, hn, NB, Nat.add_zero, Nat.add_assoc, TY, Int.toNat_natCast, effK_ret, effK_normal, Go.Proofs.Try.results64])
       refine ⟨_, Weak.refl _ _, stamp, clk, nid + 1, by omega, ?_⟩
       simp only [tb, Nat.reduceEqDiff, Nat.succ_ne_self, Nat.zero_ne_one, Nat.one_ne_zero, decide_false, decide_true, Bool.or_false, Bool.or_true, Bool.false_or, up_true, up_false, q0, hbit, selI]
     · rintro m st ⟨stamp, clk, nid, hn, rfl⟩ hcl hbit hd
       have q1 := hd 1 (by decide) (by decide)
       unfold opH
       rw [guardVC_none]
       simp only [q1, hbit, up_true, up_false, selI]
       refine .inl ?_
       (simp -dsimp only [↓RP, RQ0, RQ1, RQ2, RQ3, implies_true, forall_const, Nat.reduceMul, reduceIte, reduceCtorEq, Nat.reduceAdd, Nat.reduceEqDiff, Nat.reduceLT, Nat.reduceLeDiff, hn, NB, Nat.add_zero, Nat.add_assoc, TY, Int.toNat_natCast, effK_ret, effK_normal, Go.Proofs.Try.results64])
       refine ⟨_, Weak.refl _ _, stamp, clk, nid + 1, by omega, ?_⟩
       simp only [tb, Nat.reduceEqDiff, Nat.succ_ne_self, Nat.zero_ne_one, Nat.one_ne_zero, decide_false, decide_true, Bool.or_false, Bool.or_true, Bool.false_or, up_true, up_false, q1, hbit, selI]
     · rintro m st ⟨stamp, clk, nid, hn, rfl⟩ hcl hbit hd
       have q2 := hd 2 (by decide) (by decide)
       unfold opH
       rw [guardVC_none]
       simp only [q2, hbit, up_true, up_false, selI]
       refine .inl ?_
       (simp -dsimp only [↓RP, RQ0, RQ1, RQ2, RQ3, implies_true, forall_const, Nat.reduceMul, reduceIte, reduceCtorEq, Nat.reduceAdd, Nat.reduceEqDiff, Nat.reduceLT, Nat.reduceLeDiff, hn, NB, Nat.add_zero, Nat.add_assoc, TY, Int.toNat_natCast, effK_ret, effK_normal, Go.Proofs.Try.results64])
       refine ⟨_, Weak.refl _ _, stamp, clk, nid + 1, by omega, ?_⟩
       simp only [tb, Nat.reduceEqDiff, Nat.succ_ne_self, Nat.zero_ne_one, Nat.one_ne_zero, decide_false, decide_true, Bool.or_false, Bool.or_true, Bool.false_or, up_true, up_false, q2, hbit, selI]
     · rintro m st ⟨stamp, clk, nid, hn, rfl⟩ hcl hbit hd
       unfold opH
       rw [guardVC_none]
       simp only [hbit, up_true, up_false, selI]
       refine .inl ?_
       (simp -dsimp only [↓RP, RQ0, RQ1, RQ2, RQ3, implies_true, forall_const, Nat.reduceMul, reduceIte, reduceCtorEq, Nat.reduceAdd, Nat.reduceEqDiff, Nat.reduceLT, Nat.reduceLeDiff, hn, NB, Nat.add_zero, Nat.add_assoc, TY, Int.toNat_natCast, effK_ret, effK_normal, Go.Proofs.Try.results64])
       refine ⟨_, Weak.refl _ _, stamp, clk, nid + 1, by omega, ?_⟩
       simp only [tb, Nat.reduceEqDiff, Nat.succ_ne_self, Nat.zero_ne_one, Nat.one_ne_zero, decide_false, decide_true, Bool.or_false, Bool.or_true, Bool.false_or, up_true, up_false, hbit, selI]
     · rintro m st ⟨stamp, clk, nid, hn, rfl⟩ hcl hbit hd
       unfold opH
       rw [guardVC_none]
       simp only [hbit, up_true, up_false, selI]
       refine .inl ?_
       (simp -dsimp only [↓RP, RQ0, RQ1, RQ2, RQ3, implies_true, forall_const, Nat.reduceMul, reduceIte, reduceCtorEq, Nat.reduceAdd, Nat.reduceEqDiff, Nat.reduceLT, Nat.reduceLeDiff, hn, NB, Nat.add_zero, Nat.add_assoc, TY, Int.toNat_natCast, effK_ret, effK_normal, Go.Proofs.Try.results64])
       refine ⟨_, Weak.refl _ _, stamp, clk, nid + 1, by omega, ?_⟩
       simp only [tb, Nat.reduceEqDiff, Nat.succ_ne_self, Nat.zero_ne_one, Nat.one_ne_zero, decide_false, decide_true, Bool.or_false, Bool.or_true, Bool.false_or, up_true, up_false, hbit, selI]
     · rintro m st ⟨stamp, clk, nid, hn, rfl⟩ hcl hbit hd
       have q3 := hd 3 (by decide) (by decide)
       have q4 := hd 4 (by decide) (by decide)
       have q7 : m.testBit 7 = false := Bool.eq_false_iff.2 fun h => by have := hcl 7 6 (by decide) h; rw [hbit] at this; cases this
       have q8 : m.testBit 8 = false := Bool.eq_false_iff.2 fun h => by have := hcl 8 6 (by decide) h; rw [hbit] at this; cases this
       unfold opH
       rw [guardVC_none]
       simp only [q3, q4, q7, q8, hbit, up_true, up_false, selB]
       refine .inr ⟨rfl, .inl (mEntry_vc (dom := fun _ => false) (get := kget c) (mid := mid) (by rfl) (v := bk 0) (by rfl) mi96 (by (simp -dsimp only [↓RP, RQ0, RQ1, RQ2, RQ3, implies_true, forall_const, Nat.reduceMul, reduceIte, reduceCtorEq, Nat.reduceAdd, Nat.reduceEqDiff, Nat.reduceLT, Nat.reduceLeDiff, NB, mpA])) (by rfl) (by rfl) fun st' clk' => ?_)⟩
       refine ⟨_, Weak.refl _ _, st', clk', nid, hn, ?_⟩
       (simp -dsimp only [↓RP, RQ0, RQ1, RQ2, RQ3, implies_true, forall_const, Nat.reduceMul, reduceIte, reduceCtorEq, Nat.reduceAdd, Nat.reduceEqDiff, Nat.reduceLT, Nat.reduceLeDiff, NB])
       simp only [tb, Nat.reduceEqDiff, Nat.succ_ne_self, Nat.zero_ne_one, Nat.one_ne_zero, decide_false, decide_true, Bool.or_false, Bool.or_true, Bool.false_or, up_true, up_false, q3, q4, q7, q8, hbit, selB, mpB]
     · rintro m st ⟨stamp, clk, nid, hn, rfl⟩ hcl hbit hd
       have q6 := hd 6 (by decide) (by decide)
       unfold opH
       rw [guardVC_none]
       simp only [q6, hbit, up_true, up_false, selI]
       refine .inl ?_
       (simp -dsimp only [↓RP, RQ0, RQ1, RQ2, RQ3, implies_true, forall_const, Nat.reduceMul, reduceIte, reduceCtorEq, Nat.reduceAdd, Nat.reduceEqDiff, Nat.reduceLT, Nat.reduceLeDiff, hn, NB, Nat.add_zero, Nat.add_assoc, TY, Int.toNat_natCast, effK_ret, effK_normal, Go.Proofs.Try.results64])
       refine ⟨_, Weak.refl _ _, stamp, clk, nid + 1, by omega, ?_⟩
       simp only [tb, Nat.reduceEqDiff, Nat.succ_ne_self, Nat.zero_ne_one, Nat.one_ne_zero, decide_false, decide_true, Bool.or_false, Bool.or_true, Bool.false_or, up_true, up_false, q6, hbit, selI]
     · rintro m st ⟨stamp, clk, nid, hn, rfl⟩ hcl hbit hd
       have q3 := hd 3 (by decide) (by decide)
       have q7 := hd 7 (by decide) (by decide)
       have q6 := hd 6 (by decide) (by decide)
       unfold opH
       rw [guardVC_none]
       simp only [q3, q7, q6, hbit, up_true, up_false, selB]
       refine .inr ⟨rfl, .inr (mStore_vc (kt := 95) (v := bk 0) (mid := mid) (ag := true) (ls := [.i .i64]) (dom := putDom (fun _ => false) (bk 0)) (get := putGet (kget c) (bk 0) (.val (.int .i64 0))) (stamp := stamp) (clk := clk) (by kernel_rfl) (by rfl) (by rfl) (by rfl) (by (simp -dsimp only [↓RP, RQ0, RQ1, RQ2, RQ3, implies_true, forall_const, Nat.reduceMul, reduceIte, reduceCtorEq, Nat.reduceAdd, Nat.reduceEqDiff, Nat.reduceLT, Nat.reduceLeDiff, NB, mpB])) (by rfl) ?_)⟩
       refine ⟨_, Weak.refl _ _, stamp, clk, nid, hn, ?_⟩
       (simp -dsimp only [↓RP, RQ0, RQ1, RQ2, RQ3, implies_true, forall_const, Nat.reduceMul, reduceIte, reduceCtorEq, Nat.reduceAdd, Nat.reduceEqDiff, Nat.reduceLT, Nat.reduceLeDiff, NB])
       simp only [tb, Nat.reduceEqDiff, Nat.succ_ne_self, Nat.zero_ne_one, Nat.one_ne_zero, decide_false, decide_true, Bool.or_false, Bool.or_true, Bool.false_or, up_true, up_false, q3, q7, q6, hbit, selB, mpC_eq]
     · rintro m st ⟨stamp, clk, nid, hn, rfl⟩ hcl hbit hd
       have q5 := hd 5 (by decide) (by decide)
       unfold opH
       rw [guardVC_none]
       simp only [q5, hbit, up_true, up_false, selI]
       refine .inl ?_
       (simp -dsimp only [↓RP, RQ0, RQ1, RQ2, RQ3, implies_true, forall_const, Nat.reduceMul, reduceIte, reduceCtorEq, Nat.reduceAdd, Nat.reduceEqDiff, Nat.reduceLT, Nat.reduceLeDiff, hn, NB, Nat.add_zero, Nat.add_assoc, TY, Int.toNat_natCast, effK_ret, effK_normal, Go.Proofs.Try.results64])
       refine ⟨_, Weak.refl _ _, stamp, clk, nid + 1, by omega, ?_⟩
       simp only [tb, Nat.reduceEqDiff, Nat.succ_ne_self, Nat.zero_ne_one, Nat.one_ne_zero, decide_false, decide_true, Bool.or_false, Bool.or_true, Bool.false_or, up_true, up_false, q5, hbit, selI]
     · rintro m st ⟨stamp, clk, nid, hn, rfl⟩ hcl hbit hd
       have q9 := hd 9 (by decide) (by decide)
       unfold opH
       rw [guardVC_none]
       simp only [q9, hbit, up_true, up_false, selI]
       refine .inl ?_
       (simp -dsimp only [↓RP, RQ0, RQ1, RQ2, RQ3, implies_true, forall_const, Nat.reduceMul, reduceIte, reduceCtorEq, Nat.reduceAdd, Nat.reduceEqDiff, Nat.reduceLT, Nat.reduceLeDiff, hn, NB, Nat.add_zero, Nat.add_assoc, TY, Int.toNat_natCast, effK_ret, effK_normal, Go.Proofs.Try.results64])
       refine ⟨_, Weak.refl _ _, stamp, clk, nid + 1, by omega, ?_⟩
       simp only [tb, Nat.reduceEqDiff, Nat.succ_ne_self, Nat.zero_ne_one, Nat.one_ne_zero, decide_false, decide_true, Bool.or_false, Bool.or_true, Bool.false_or, up_true, up_false, q9, hbit, selI]
     · rintro m st ⟨stamp, clk, nid, hn, rfl⟩ hcl hbit hd
       have q10 := hd 10 (by decide) (by decide)
       unfold opH
       rw [guardVC_none]
       simp only [q10, hbit, up_true, up_false, selI]
       refine .inl ?_
       (simp -dsimp only [↓RP, RQ0, RQ1, RQ2, RQ3, implies_true, forall_const, Nat.reduceMul, reduceIte, reduceCtorEq, Nat.reduceAdd, Nat.reduceEqDiff, Nat.reduceLT, Nat.reduceLeDiff, hn, NB, Nat.add_zero, Nat.add_assoc, TY, Int.toNat_natCast, effK_ret, effK_normal, Go.Proofs.Try.results64])
       refine ⟨_, Weak.refl _ _, stamp, clk, nid + 1, by omega, ?_⟩
       simp only [tb, Nat.reduceEqDiff, Nat.succ_ne_self, Nat.zero_ne_one, Nat.one_ne_zero, decide_false, decide_true, Bool.or_false, Bool.or_true, Bool.false_or, up_true, up_false, q10, hbit, selI]
     · rintro m st' ⟨stamp, clk, nid, hn, rfl⟩ hall
       simp only [hall 0 (by decide), hall 1 (by decide), hall 2 (by decide), hall 3 (by decide), hall 4 (by decide), hall 5 (by decide), hall 6 (by decide), hall 7 (by decide), hall 8 (by decide), hall 9 (by decide), hall 10 (by decide), hall 11 (by decide), up_true, selI, selB, mpC]
       (simp -dsimp only [↓RP, RQ0, RQ1, RQ2, RQ3, implies_true, forall_const, Nat.reduceMul, reduceIte, reduceCtorEq, Nat.reduceAdd, Nat.reduceEqDiff, Nat.reduceLT, Nat.reduceLeDiff, NB, Nat.add_zero, Nat.add_assoc, TY, Int.toNat_natCast, effK_ret, effK_normal, Go.Proofs.Try.results64])
       refine LoopOr.weak (key (0, _) ?_) (weakS ?_ (SubHp.refl _))
       · refine ⟨?_, ?_, ?_⟩ <;> simp only [] <;> omega
       · simp [SubFr, Go.Sx.look]
   · refine LoopOr.weak (key (top, _) ?_) (weakS ?_ (SubHp.refl _))
     · refine ⟨?_, ?_, ?_⟩ <;> simp only [] <;> omega
     · simp [SubFr, Go.Sx.look]
  case key =>
   intro x hx
   refine loop_vc (fun (x : Nat × Nat) => x.1 ≤ 400 ∧ x.1 ≤ turns + 6 ∧ id + 1 ≤ x.2) (fun x => ⟨[(1, .val (.int .i64 turns)), (2, .ptr id 0)], (id, .cells 77 [.ptr bid 0]) :: (bid, bdC c mid full x.1) :: (mid, bdM c x.1) :: rest, x.2⟩) (fun x => turns - x.1) x hx (Weak.refl _ _) fun x hx => ?_
   obtain ⟨T, nid⟩ := x
   obtain ⟨hT1, hT2, hn⟩ := hx
   replace hT1 : T ≤ 400 := hT1
   replace hT2 : T ≤ turns + 6 := hT2
   replace hn : id + 1 ≤ nid := hn
   have NB := names3 (a := bid) (b := mid) (c := id) (n := nid) hbm (by omega) (by omega) (by omega) (by omega) (by omega)
   have hM := M_bound h
   by_cases hlt : T < turns
   · (repeat' (first | with_reducible refine splitVC_d (fun _ => ?_) (fun _ => ?_) | ((with_reducible refine And.intro ?_ ?_); focus (first | trivial | (simp only [InK]; omega) | omega | (simp only [InK, ne_eq, and_true, true_and]; omega))) | simp -dsimp only [↓RP, RQ0, RQ1, RQ2, RQ3, implies_true, forall_const, Nat.reduceMul, reduceIte, reduceCtorEq, Nat.reduceAdd, Nat.reduceEqDiff, Nat.reduceLT, Nat.reduceLeDiff, NB, self_F1, self_F2, Nat.add_zero, Nat.add_assoc, TY, Int.toNat_natCast, effK_ret, effK_normal, Go.Proofs.Try.results64]))
     all_goals first | (exfalso; omega) | skip
     refine callVC_old (c86 c ((T : Int) + 1)) (by (simp -dsimp only [↓RP, RQ0, RQ1, RQ2, RQ3, implies_true, forall_const, Nat.reduceMul, reduceIte, reduceCtorEq, Nat.reduceAdd, Nat.reduceEqDiff, Nat.reduceLT, Nat.reduceLeDiff, Curve.sv, ints, I]); all_goals simp) ?_
     (repeat' (first | with_reducible refine splitVC_d (fun _ => ?_) (fun _ => ?_) | ((with_reducible refine And.intro ?_ ?_); focus (first | trivial | (simp only [InK]; omega) | omega | (simp only [InK, ne_eq, and_true, true_and]; omega))) | simp -dsimp only [↓RP, RQ0, RQ1, RQ2, RQ3, implies_true, forall_const, Nat.reduceMul, reduceIte, reduceCtorEq, Nat.reduceAdd, Nat.reduceEqDiff, Nat.reduceLT, Nat.reduceLeDiff, NB, self_F1, self_F2, Nat.add_zero, Nat.add_assoc, TY, Int.toNat_natCast, effK_ret, effK_normal, Go.Proofs.Try.results64]))
     refine rangeIF (ps := [68, 69]) follows (fun n => by rfl) (by rfl) Go.Proofs.Try.func98 rfl (by kernel_rfl) (by kernel_rfl) (by rw [Go.Proofs.Try.results98]) (by rw [Go.Proofs.Try.ntmps98]; simp) fun out2 L R => ?_
     (repeat' (first | with_reducible refine splitVC_d (fun _ => ?_) (fun _ => ?_) | ((with_reducible refine And.intro ?_ ?_); focus (first | trivial | (simp only [InK]; omega) | omega | (simp only [InK, ne_eq, and_true, true_and]; omega))) | simp -dsimp only [↓RP, RQ0, RQ1, RQ2, RQ3, implies_true, forall_const, Nat.reduceMul, reduceIte, reduceCtorEq, Nat.reduceAdd, Nat.reduceEqDiff, Nat.reduceLT, Nat.reduceLeDiff, Curve.sv, ints, I, NB, self_F1, self_F2, Nat.add_zero, Nat.add_assoc, TY, Int.toNat_natCast, effK_ret, effK_normal, Go.Proofs.Try.results64, Go.Proofs.Try.results98]))
     have hrd := fun k => hr.drop (m := nid) (by omega) k
     refine loop_vc (fun (x : Nat × Nat) => x.1 ≤ min c.m (T + 1) ∧ nid + 26 ≤ x.2) (fun x => ⟨[(0, .yld (nid + 25)), (1, .ref true 1 fun _ => .arr false false c.m 1 fun i _ => .val (.int .i64 (c.u i))), (2, .ref true 1 fun _ => .val (.int .i64 ((T : Int) + 1))), (7, .arr false false c.m 1 fun i _ => .val (.int .i64 (c.u i))), (8, .val (.int .i64 c.m)), (9, .val (.int .i64 x.1))],
       (nid + 25, .loop L .ready) :: (nid + 14, .cells 2 [.val (.int .i64 (bst c T x.1))]) :: (id, .cells 77 [.ptr bid 0]) :: (bid, bdI c mid full ((T : Int) + 1)) :: (mid, bdM c T) :: rest, x.2⟩) (fun x => min c.m (T + 1) - x.1) (0, _) ⟨Nat.zero_le _, ?_⟩ (weakS (by simp [SubFr, Go.Sx.look]) (SubHp.refl _)) fun x hx => ?_
     · simp only []; omega
     obtain ⟨p, nid2⟩ := x
     obtain ⟨hp1, hn2⟩ := hx
     replace hp1 : p ≤ min c.m (T + 1) := hp1
     replace hn2 : nid + 26 ≤ nid2 := hn2
     have hbb := bst_bound c h T p (by omega) (by omega)
     have hpi : ((p : Nat) : Int) + 1 ≤ 7 := by omega
     by_cases hpl : p < min c.m (T + 1)
     · have hup := h.rg p (by omega)
       have hMp := hM (T - p)
       have er : (T : Int) + 1 - ((p : Int) + 1) = ((T - p : Nat) : Int) := by omega
       have hk1 : kdom T (.agg #[.int .i64 ((T - p : Nat) : Int)]) = true := kdom_at T (T - p) (by omega)
       have hg1 : kget c (.agg #[.int .i64 ((T - p : Nat) : Int)]) = .val (.int .i64 (c.M (T - p))) := kget_at c (T - p)
       have hs := bst_step c h T p (by omega)
       rw [Int.add_comm (c.M (T - p))] at hs
       (repeat' (first | with_reducible refine splitVC_d (fun _ => ?_) (fun _ => ?_) | ((with_reducible refine And.intro ?_ ?_); focus (first | trivial | (simp only [InK]; omega) | omega | (simp only [InK, ne_eq, and_true, true_and]; omega))) | simp -dsimp only [↓RP, RQ0, RQ1, RQ2, RQ3, implies_true, forall_const, Nat.reduceMul, reduceIte, reduceCtorEq, Nat.reduceAdd, Nat.reduceEqDiff, Nat.reduceLT, Nat.reduceLeDiff, NB, self_F1, self_F2, Nat.add_zero, Nat.add_assoc, TY, Int.toNat_natCast, effK_ret, effK_normal, Go.Proofs.Try.results64, Go.Proofs.Try.results98]))
       all_goals first | (exfalso; omega) | skip
       refine yieldI follows (by rfl) R (blk_head _ _ _) (by rfl) fun out3 => ?_
       (repeat' (first | with_reducible refine splitVC_d (fun _ => ?_) (fun _ => ?_) | ((with_reducible refine And.intro ?_ ?_); focus (first | trivial | (simp only [InK]; omega) | omega | (simp only [InK, ne_eq, and_true, true_and]; omega))) | simp -dsimp only [↓RP, RQ0, RQ1, RQ2, RQ3, implies_true, forall_const, Nat.reduceMul, reduceIte, reduceCtorEq, Nat.reduceAdd, Nat.reduceEqDiff, Nat.reduceLT, Nat.reduceLeDiff, er, hk1, hg1, NB, self_F1, self_F2, Nat.add_zero, Nat.add_assoc, TY, Int.toNat_natCast, effK_ret, effK_normal, Go.Proofs.Try.results64, Go.Proofs.Try.results98]))
       all_goals first | (exfalso; omega) | skip
       · rw [if_pos (by omega)] at hs
         refine ⟨(p + 1, _), ⟨by simp only []; omega, ?_⟩, by simp only []; omega, weakS ?_ ?_⟩
         · simp only []; omega
         · simp [SubFr, Go.Sx.look]
         · simp only [hs]; exact SubHp.refl _
       · rw [if_pos (by omega)] at hs
         refine ⟨(p + 1, _), ⟨by simp only []; omega, ?_⟩, by simp only []; omega, weakS ?_ ?_⟩
         · simp only []; omega
         · simp [SubFr, Go.Sx.look]
         · simp only [hs]; exact SubHp.refl _
       · rw [if_neg (by omega)] at hs
         refine ⟨(p + 1, _), ⟨by simp only []; omega, ?_⟩, by simp only []; omega, weakS ?_ ?_⟩
         · simp only []; omega
         · simp [SubFr, Go.Sx.look]
         · simp only [hs]; exact SubHp.refl _
     · have hpe : p = min c.m (T + 1) := by omega
       have hbe := bst_end c h T
       have NB2 := names3 (a := bid) (b := mid) (c := id) (n := nid2) hbm (by omega) (by omega) (by omega) (by omega) (by omega)
       have NB3 := names2 (a := nid + 14) (b := nid + 25) (n := nid2) (by omega) (by omega) (by omega)
       rw [← hpe] at hbe
       have ep : putGet (kget c) (.agg #[.int .i64 ((T : Int) + 1)]) (.val (.int .i64 (c.M (T + 1)))) = kget c := kget_put c (T + 1)
       by_cases h12 : T + 1 = 12
       · have ed : putDom (kdom T) (.agg #[.int .i64 ((T : Int) + 1)]) = kdom (T + 1) := kdom_step12 T h12
         (repeat' (first | with_reducible refine splitVC_d (fun _ => ?_) (fun _ => ?_) | ((with_reducible refine And.intro ?_ ?_); focus (first | trivial | (simp only [InK]; omega) | omega | (simp only [InK, ne_eq, and_true, true_and]; omega))) | simp -dsimp only [↓RP, RQ0, RQ1, RQ2, RQ3, implies_true, forall_const, Nat.reduceMul, reduceIte, reduceCtorEq, Nat.reduceAdd, Nat.reduceEqDiff, Nat.reduceLT, Nat.reduceLeDiff, ep, ed, hrd, hbe, NB2, NB3, NB, self_F1, self_F2, Nat.add_zero, Nat.add_assoc, TY, Int.toNat_natCast, effK_ret, effK_normal, Go.Proofs.Try.results64, Go.Proofs.Try.results98]))
         all_goals first | (exfalso; omega) | skip
         all_goals
           refine ⟨(T + 1, _), ⟨by simp only []; omega, by simp only []; omega, ?_⟩, by simp only []; omega, weakS ?_ ?_⟩
           · simp only []; omega
           · simp [SubFr, Go.Sx.look]
           · refine SubHp.skip ?_ (SubHp.skip ?_ (SubHp.refl _))
             · simp only [blk, NB, NB2, NB3, if_false]; exact hr.none (by omega)
             · simp only [blk, NB, NB2, NB3, if_false]; exact hr.none (by omega)
       · have ed : cutDom (putDom (kdom T) (.agg #[.int .i64 ((T : Int) + 1)])) (.agg #[.int .i64 ((T : Int) + 1 - 12)]) = kdom (T + 1) := kdom_step T h12
         (repeat' (first | with_reducible refine splitVC_d (fun _ => ?_) (fun _ => ?_) | ((with_reducible refine And.intro ?_ ?_); focus (first | trivial | (simp only [InK]; omega) | omega | (simp only [InK, ne_eq, and_true, true_and]; omega))) | simp -dsimp only [↓RP, RQ0, RQ1, RQ2, RQ3, implies_true, forall_const, Nat.reduceMul, reduceIte, reduceCtorEq, Nat.reduceAdd, Nat.reduceEqDiff, Nat.reduceLT, Nat.reduceLeDiff, ep, ed, hrd, hbe, NB2, NB3, NB, self_F1, self_F2, Nat.add_zero, Nat.add_assoc, TY, Int.toNat_natCast, effK_ret, effK_normal, Go.Proofs.Try.results64, Go.Proofs.Try.results98]))
         all_goals first | (exfalso; omega) | skip
         all_goals
           refine ⟨(T + 1, _), ⟨by simp only []; omega, by simp only []; omega, ?_⟩, by simp only []; omega, weakS ?_ ?_⟩
           · simp only []; omega
           · simp [SubFr, Go.Sx.look]
           · refine SubHp.skip ?_ (SubHp.skip ?_ (SubHp.refl _))
             · simp only [blk, NB, NB2, NB3, if_false]; exact hr.none (by omega)
             · simp only [blk, NB, NB2, NB3, if_false]; exact hr.none (by omega)
   · have hk : kdom T (.agg #[.int .i64 turns]) = true := kdom_at T turns (by omega)
     have hg : kget c (.agg #[.int .i64 turns]) = .val (.int .i64 (c.M turns)) := kget_at c turns
     (repeat' (first | with_reducible refine splitVC_d (fun _ => ?_) (fun _ => ?_) | ((with_reducible refine And.intro ?_ ?_); focus (first | trivial | (simp only [InK]; omega) | omega | (simp only [InK, ne_eq, and_true, true_and]; omega))) | simp -dsimp only [↓RP, RQ0, RQ1, RQ2, RQ3, implies_true, forall_const, Nat.reduceMul, reduceIte, reduceCtorEq, Nat.reduceAdd, Nat.reduceEqDiff, Nat.reduceLT, Nat.reduceLeDiff, hk, hg, NB, self_F1, self_F2, Nat.add_zero, Nat.add_assoc, TY, Int.toNat_natCast, effK_ret, effK_normal, Go.Proofs.Try.results64]))
     all_goals first | (exfalso; omega) | skip
     refine ⟨_, _, _, weakS (fr' := [(0, .val (.int .i64 (c.M turns)))]) ⟨.inr rfl, trivial⟩ (SubHp.skip ?_ (SubHp.refl _)), T, hT1, rfl, by omega, rfl⟩
     simp only [blk, NB, if_false]
     exact hr.none (Nat.le_refl _)
end Go.Lg
end
section
set_option linter.unusedSimpArgs false
set_option linter.unusedVariables false
set_option maxRecDepth 100000
set_option maxHeartbeats 4000000
namespace Go.Lg
open Go.Sx
def fk (c : Curve) (k j : Nat) : Int := if j < k then c.M j else 0
abbrev fkB (c : Curve) (k : Nat) : Blk := .cells 98 [.val (.int .i64 (fk c k 0)), .val (.int .i64 (fk c k 1)), .val (.int .i64 (fk c k 2)), .val (.int .i64 (fk c k 3)), .val (.int .i64 (fk c k 4)), .val (.int .i64 (fk c k 5)), .val (.int .i64 (fk c k 6))]
theorem e63 (c : Curve) (h : c.Fine) (id : Nat) : EffVC Go.Proofs.Try.prog 63 [c.sv] [] id (fun hp' nid' res => ∃ bid mid top, bid ≠ mid ∧ bid < nid' ∧ mid < nid' ∧ id ≤ bid ∧ id ≤ mid ∧ top ≤ 400 ∧ hp' = [(bid, bdC c mid true top), (mid, bdM c top)] ∧ res = .ptr bid 0) := by
  refine eff_of follows Go.Proofs.Try.func63 rfl (by kernel_rfl) (by kernel_rfl) (by rw [Go.Proofs.Try.ntmps63]; simp) fun out => ?_
  unfold Curve.sv ints
  (repeat' (first | with_reducible refine splitVC_d (fun _ => ?_) (fun _ => ?_) | ((with_reducible refine And.intro ?_ ?_); focus (first | trivial | (simp only [InK]; omega) | omega | (simp only [InK, ne_eq, and_true, true_and]; omega))) | simp -dsimp only [↓RP, RQ0, RQ1, RQ2, RQ3, implies_true, forall_const, Nat.reduceMul, reduceIte, reduceCtorEq, Nat.reduceAdd, Nat.reduceEqDiff, Nat.reduceLT, Nat.reduceLeDiff, self_F1, self_F2, Nat.add_zero, Nat.add_assoc, TY, Int.toNat_natCast, effK_ret, effK_normal, Go.Proofs.Try.results63]))
  refine loop_vc (fun (x : Nat × Nat × Nat) => x.1 ≤ 7 ∧ x.2.1 ≤ 400 ∧ id + 12 ≤ x.2.2) (fun x => ⟨[(3, .ptr (id + 8) 0), (4, .ptr (id + 10) 0), (13, .val (.int .i64 x.1))], [(id + 8, bdC c (id + 3) false x.2.1), (id + 3, bdM c x.2.1), (id + 10, fkB c x.1)], x.2.2⟩) (fun x => 7 - x.1) (0, 0, _) ⟨by simp only []; omega, by simp only []; omega, ?_⟩ (Weak.trans (weakM (mid := id + 3) (fit := keyFit true [.i .i64]) (dom := putDom (fun _ => false) (bk 0)) (get := putGet (fun _ => .top) (bk 0) (.val (.int .i64 0))) (get' := kget c) ?_ ?_) (weakS ?_ ?_)) fun x hx => ?_
  · exact Nat.le_refl _
  · (simp -dsimp only [↓RP, RQ0, RQ1, RQ2, RQ3, implies_true, forall_const, Nat.reduceMul, reduceIte, reduceCtorEq, Nat.reduceAdd, Nat.reduceEqDiff, Nat.reduceLT, Nat.reduceLeDiff, self_F1, self_F2]); rfl
  · intro v hv
    rw [kdom_zero] at hv
    unfold kdom at hv
    simp only [Bool.and_eq_true] at hv
    obtain ⟨n, rfl⟩ := kf_mk hv.1
    have : n = 0 := by
      have := hv.2
      rw [k1_bk] at this
      simp at this; omega
    subst this
    rfl
  · simp [SubFr, Go.Sx.look]
  · intro k x hx
    by_cases h1 : k = id + 8
    · subst h1
      simp [blk] at hx
      simp [blk, setBlk, ← hx, fw, fk]
    · by_cases h2 : k = id + 3
      · subst h2
        simp [blk] at hx
        simp [blk, setBlk, ← hx, kdom_zero]
      · by_cases h3 : k = id + 10
        · subst h3
          simp [blk] at hx
          simp [blk, setBlk, ← hx, fw, fk]
        · simp [blk, h1, h2, h3] at hx
  obtain ⟨k, top, nid⟩ := x
  obtain ⟨hk, ht, hn⟩ := hx
  replace hk : k ≤ 7 := hk
  replace ht : top ≤ 400 := ht
  replace hn : id + 12 ≤ nid := hn
  have NB := names3 (a := id + 8) (b := id + 3) (c := id + 10) (n := nid) (by omega) (by omega) (by omega) (by omega) (by omega) (by omega)
  by_cases hlt : k < 7
  · (repeat' (first | with_reducible refine splitVC_d (fun _ => ?_) (fun _ => ?_) | ((with_reducible refine And.intro ?_ ?_); focus (first | trivial | (simp only [InK]; omega) | omega | (simp only [InK, ne_eq, and_true, true_and]; omega))) | simp -dsimp only [↓RP, RQ0, RQ1, RQ2, RQ3, implies_true, forall_const, Nat.reduceMul, reduceIte, reduceCtorEq, Nat.reduceAdd, Nat.reduceEqDiff, Nat.reduceLT, Nat.reduceLeDiff, NB, self_F1, self_F2, Nat.add_zero, Nat.add_assoc, TY, Int.toNat_natCast, effK_ret, effK_normal, Go.Proofs.Try.results63]))
    all_goals first | (exfalso; omega) | skip
    refine callE (by rfl) (e64 c h false top k ht (by omega) (id + 8) (id + 3) _ [(id + 10, fkB c k)] (by omega) (by omega) (by omega) (Under.nil.cons (by omega))) fun hp' nid' res ⟨top', ht', q1, hn', q2⟩ => ?_
    subst q1 q2
    have hk7 : k = 0 ∨ k = 1 ∨ k = 2 ∨ k = 3 ∨ k = 4 ∨ k = 5 ∨ k = 6 := by omega
    obtain ⟨k2, hk2⟩ : ∃ k2, k2 = k + 1 := ⟨_, rfl⟩
    rcases hk7 with rfl | rfl | rfl | rfl | rfl | rfl | rfl
    all_goals
      (repeat' (first | with_reducible refine splitVC_d (fun _ => ?_) (fun _ => ?_) | ((with_reducible refine And.intro ?_ ?_); focus (first | trivial | (simp only [InK]; omega) | omega | (simp only [InK, ne_eq, and_true, true_and]; omega))) | simp -dsimp only [↓RP, RQ0, RQ1, RQ2, RQ3, implies_true, forall_const, Nat.reduceMul, reduceIte, reduceCtorEq, Nat.reduceAdd, Nat.reduceEqDiff, Nat.reduceLT, Nat.reduceLeDiff, NB, I, self_F1, self_F2, Nat.add_zero, Nat.add_assoc, TY, Int.toNat_natCast, effK_ret, effK_normal, Go.Proofs.Try.results63]))
      all_goals first | (exfalso; omega) | skip
      refine ⟨(k2, top', _), ⟨?_, ?_, ?_⟩, ?_, weakS ?_ ?_⟩
      rotate_left 4
      · subst hk2; simp [SubFr, Go.Sx.look]
      · subst hk2; exact SubHp.refl _
      · simp only []; omega
      · simp only []; omega
      · simp only []; omega
      · simp only []; omega
  · have hke : k = 7 := by omega
    subst hke
    (repeat' (first | with_reducible refine splitVC_d (fun _ => ?_) (fun _ => ?_) | ((with_reducible refine And.intro ?_ ?_); focus (first | trivial | (simp only [InK]; omega) | omega | (simp only [InK, ne_eq, and_true, true_and]; omega))) | simp -dsimp only [↓RP, RQ0, RQ1, RQ2, RQ3, implies_true, forall_const, Nat.reduceMul, reduceIte, reduceCtorEq, Nat.reduceAdd, Nat.reduceEqDiff, Nat.reduceLT, Nat.reduceLeDiff, NB, self_F1, self_F2, Nat.add_zero, Nat.add_assoc, TY, Int.toNat_natCast, effK_ret, effK_normal, Go.Proofs.Try.results63]))
    all_goals first | (exfalso; omega) | skip
    refine ⟨_, _, _, weakS (fr' := [(0, .ptr (id + 8) 0)]) ⟨.inr rfl, trivial⟩ ?_, id + 8, id + 3, top, by omega, by omega, by omega, by omega, by omega, ht, rfl, rfl⟩
    intro k x hx
    by_cases h1 : k = id + 8
    · subst h1
      simp [blk] at hx
      simp [blk, ← hx, fw, fk]
    · by_cases h2 : k = id + 3
      · subst h2
        simp [blk] at hx
        simp [blk, ← hx]
      · simp [blk, h1, h2] at hx
end Go.Lg
end
section
set_option linter.unusedSimpArgs false
set_option linter.unusedVariables false
set_option maxRecDepth 100000
set_option maxHeartbeats 4000000
namespace Go.Lg
open Go.Sx
def mostV (c : Curve) (t : Int) : Int × Int := if c.err = 0 then (if 0 ≤ t ∧ t ≤ 200 then (c.M t.toNat, 0) else (0, 3)) else (0, c.err)
theorem tup2 {a b a' b' : Int} (h1 : a' = a) (h2 : b' = b) : SV.tup [.val (.int .i64 a), .val (.int .i64 b)] = SV.tup [.val (.int .i64 a'), .val (.int .i64 b')] := by rw [h1, h2]
theorem c20 (c : Curve) (hm : c.m ≤ 1000000) (t : Int) : Contract Go.Proofs.Try.prog 20 [c.sv, I t] (.tup [I (mostV c t).1, I (mostV c t).2]) := by
  refine contract_of Go.Proofs.Try.func20 rfl (by kernel_rfl) follows (by kernel_rfl) _ _ (by rw [Go.Proofs.Try.ntmps20]; simp) (by simp [OldL, c.old]; simp [Old, I]) ?_
  unfold I
  conv => arg 4; unfold Curve.sv ints
  (repeat' (first | with_reducible refine splitVC_d (fun _ => ?_) (fun _ => ?_) | ((with_reducible refine And.intro ?_ ?_); focus (first | trivial | (simp only [InK]; omega) | omega | (simp only [InK, ne_eq, and_true, true_and]; omega))) | simp -dsimp only [↓RP, RQ0, RQ1, RQ2, RQ3, implies_true, forall_const, Nat.reduceMul, reduceIte, reduceCtorEq, Nat.reduceAdd, Nat.reduceEqDiff, Nat.reduceLT, Nat.reduceLeDiff, TY, Go.Proofs.Try.results20]))
  refine callVC (c26 c hm) (by (simp -dsimp only [↓RP, RQ0, RQ1, RQ2, RQ3, implies_true, forall_const, Nat.reduceMul, reduceIte, reduceCtorEq, Nat.reduceAdd, Nat.reduceEqDiff, Nat.reduceLT, Nat.reduceLeDiff, Curve.sv, ints, I]); all_goals simp) (by (simp -dsimp only [↓RP, RQ0, RQ1, RQ2, RQ3, implies_true, forall_const, Nat.reduceMul, reduceIte, reduceCtorEq, Nat.reduceAdd, Nat.reduceEqDiff, Nat.reduceLT, Nat.reduceLeDiff, I])) ?_
  (repeat' (first | with_reducible refine splitVC_d (fun _ => ?_) (fun _ => ?_) | ((with_reducible refine And.intro ?_ ?_); focus (first | trivial | (simp only [InK]; omega) | omega | (simp only [InK, ne_eq, and_true, true_and]; omega))) | simp -dsimp only [↓RP, RQ0, RQ1, RQ2, RQ3, implies_true, forall_const, Nat.reduceMul, reduceIte, reduceCtorEq, Nat.reduceAdd, Nat.reduceEqDiff, Nat.reduceLT, Nat.reduceLeDiff, I, TY, Go.Proofs.Try.results20]))
  rotate_left
  · rename_i he
    unfold mostV
    rw [if_neg he]
    exact ⟨rfl, rfl⟩
  rename_i he
  have hf := Curve.fine he
  refine callVC (c62_1 t 0 200) (by (simp -dsimp only [↓RP, RQ0, RQ1, RQ2, RQ3, implies_true, forall_const, Nat.reduceMul, reduceIte, reduceCtorEq, Nat.reduceAdd, Nat.reduceEqDiff, Nat.reduceLT, Nat.reduceLeDiff, ints, I]); all_goals simp) (by (simp -dsimp only [↓RP, RQ0, RQ1, RQ2, RQ3, implies_true, forall_const, Nat.reduceMul, reduceIte, reduceCtorEq, Nat.reduceAdd, Nat.reduceEqDiff, Nat.reduceLT, Nat.reduceLeDiff, B])) ?_
  (repeat' (first | with_reducible refine splitVC_d (fun _ => ?_) (fun _ => ?_) | ((with_reducible refine And.intro ?_ ?_); focus (first | trivial | (simp only [InK]; omega) | omega | (simp only [InK, ne_eq, and_true, true_and]; omega))) | simp -dsimp only [↓RP, RQ0, RQ1, RQ2, RQ3, implies_true, forall_const, Nat.reduceMul, reduceIte, reduceCtorEq, Nat.reduceAdd, Nat.reduceEqDiff, Nat.reduceLT, Nat.reduceLeDiff, B, TY, Go.Proofs.Try.results20]))
  rotate_left
  · rename_i ht
    unfold mostV
    rw [if_pos he, if_neg ht]
    exact ⟨rfl, rfl⟩
  rename_i ht
  obtain ⟨k, rfl⟩ : ∃ k : Nat, t = k := ⟨t.toNat, by omega⟩
  have e0 : mostV c k = (c.M k, 0) := by unfold mostV; rw [if_pos he, if_pos ht]; rfl
  rw [e0]
  refine callE (by rfl) (EffVC.sub (hp2 := []) (fun k x hx => by simp [blk] at hx) (e63 c hf _)) fun hp' nid' res ⟨bid, mid, top, q1, q2, q3, q4, q5, q6, q7, q8⟩ => ?_
  subst q7 q8
  (repeat' (first | with_reducible refine splitVC_d (fun _ => ?_) (fun _ => ?_) | ((with_reducible refine And.intro ?_ ?_); focus (first | trivial | (simp only [InK]; omega) | omega | (simp only [InK, ne_eq, and_true, true_and]; omega))) | simp -dsimp only [↓RP, RQ0, RQ1, RQ2, RQ3, implies_true, forall_const, Nat.reduceMul, reduceIte, reduceCtorEq, Nat.reduceAdd, Nat.reduceEqDiff, Nat.reduceLT, Nat.reduceLeDiff, TY, Go.Proofs.Try.results20]))
  refine callE (by rfl) (e64 c hf true top k q6 (by omega) bid mid _ [] q1 (by omega) (by omega) Under.nil) fun hp' nid2 res ⟨top', ht', r1, hn', r2⟩ => ?_
  subst r1 r2
  (repeat' (first | with_reducible refine splitVC_d (fun _ => ?_) (fun _ => ?_) | ((with_reducible refine And.intro ?_ ?_); focus (first | trivial | (simp only [InK]; omega) | omega | (simp only [InK, ne_eq, and_true, true_and]; omega))) | simp -dsimp only [↓RP, RQ0, RQ1, RQ2, RQ3, implies_true, forall_const, Nat.reduceMul, reduceIte, reduceCtorEq, Nat.reduceAdd, Nat.reduceEqDiff, Nat.reduceLT, Nat.reduceLeDiff, I, TY, Go.Proofs.Try.results20]))
end Go.Lg
end
section
set_option linter.unusedSimpArgs false
set_option linter.unusedVariables false
set_option maxRecDepth 100000
set_option maxHeartbeats 4000000
namespace Go.Lg
open Go.Sx
theorem L1_bound (c : Curve) (h : c.Fine) (k : Nat) (hk : k ≤ 400) : 0 ≤ c.L1 k ∧ c.L1 k ≤ 50000 := by
  have hb := L1_ok c h k hk
  have h1 := h.m1
  have hr := Nat.mod_lt k h1
  unfold Curve.L1
  split
  · have := h.rg (k % c.m - 1) (by omega); omega
  · omega
theorem Ls_bound (C : Nat → Curve) : ∀ i, (∀ j, j ≤ i → (C j).Fine) → ∀ k, k ≤ 400 → 0 ≤ Ls C i k ∧ Ls C i k ≤ 50000
  | 0, h, k, hk => L1_bound _ (h 0 (by omega)) k hk
  | i + 1, h, k, hk => by
    obtain ⟨p, hp, e⟩ := Ls_at C i k
    have h1 := Ls_bound C i (fun j hj => h j (by omega))
    have h2 := Ls_le C i k 0 (Nat.zero_le _)
    rw [L1_zero, Nat.sub_zero] at h2
    have h3 := h1 (k - p) (by omega)
    have h4 := h1 k hk
    have h5 := L1_bound _ (h (i + 1) (by omega)) p (by omega)
    omega
def lsP (C : Nat → Curve) (i k P : Nat) : Int := foldMin (fun p => Ls C i (k - p) + (C (i + 1)).L1 p) P
theorem lsP_zero (C : Nat → Curve) (i k : Nat) : lsP C i k 0 = Ls C i k := by
  show Ls C i (k - 0) + (C (i + 1)).L1 0 = _
  rw [L1_zero]; simp
theorem lsP_succ (C : Nat → Curve) (i k P : Nat) : lsP C i k (P + 1) = min (lsP C i k P) (Ls C i (k - (P + 1)) + (C (i + 1)).L1 (P + 1)) := rfl
theorem lsP_end (C : Nat → Curve) (i k : Nat) : lsP C i k k = Ls C (i + 1) k := rfl
theorem lsP_bound (C : Nat → Curve) (i : Nat) (h : ∀ j, j ≤ i + 1 → (C j).Fine) (k : Nat) (hk : k ≤ 400) : ∀ P, P ≤ k → 0 ≤ lsP C i k P ∧ lsP C i k P ≤ 50000
  | 0, _ => by rw [lsP_zero]; exact Ls_bound C i (fun j hj => h j (by omega)) k hk
  | P + 1, hP => by
    have h1 := lsP_bound C i h k hk P (by omega)
    have h2 := Ls_bound C i (fun j hj => h j (by omega)) (k - (P + 1)) (by omega)
    have h3 := L1_bound _ (h (i + 1) (by omega)) (P + 1) (by omega)
    rw [lsP_succ]; omega
def z1 (f : Nat → Int) (k j : Nat) : Int := if j < k then f j else 0
def z2 (f : Nat → Int) (k : Nat) (x : Int) (j : Nat) : Int := if j < k then f j else if j = k then x else 0
theorem z1_zero (f : Nat → Int) (j : Nat) : z1 f 0 j = 0 := by unfold z1; rw [if_neg (by omega)]
theorem z1_put (f : Nat → Int) (k a : Nat) : (if a = k then SV.val (.int .i64 (f k)) else .val (.int .i64 (z1 f k a))) = .val (.int .i64 (z1 f (k + 1) a)) := by
  unfold z1
  by_cases e : a = k
  · subst e; rw [if_pos rfl, if_pos (by omega)]
  · rw [if_neg e]
    by_cases h : a < k
    · rw [if_pos h, if_pos (by omega)]
    · rw [if_neg h, if_neg (by omega)]
theorem z2_put (f : Nat → Int) (k a : Nat) (x : Int) : (if a = k then SV.val (.int .i64 x) else .val (.int .i64 (z1 f k a))) = .val (.int .i64 (z2 f k x a)) := by
  unfold z1 z2
  by_cases e : a = k
  · subst e; rw [if_pos rfl, if_neg (by omega), if_pos rfl]
  · rw [if_neg e, if_neg e]
theorem z3_put (f : Nat → Int) (k a : Nat) (x y : Int) : (if a = k then SV.val (.int .i64 y) else .val (.int .i64 (z2 f k x a))) = .val (.int .i64 (z2 f k y a)) := by
  unfold z2
  by_cases e : a = k
  · subst e; rw [if_pos rfl, if_neg (by omega), if_pos rfl]
  · rw [if_neg e, if_neg e, if_neg e]
theorem z2_at (f : Nat → Int) (k : Nat) (x : Int) : z2 f k x k = x := by unfold z2; rw [if_neg (by omega), if_pos rfl]
theorem z2_end (f : Nat → Int) (k a : Nat) : z2 f k (f k) a = z1 f (k + 1) a := by
  unfold z1 z2
  by_cases e : a < k
  · rw [if_pos e, if_pos (by omega)]
  · rw [if_neg e]
    by_cases e2 : a = k
    · subst e2; rw [if_pos rfl, if_pos (by omega)]
    · rw [if_neg e2, if_neg (by omega)]
theorem z1_end (f : Nat → Int) (k a : Nat) (h : a < k) : z1 f k a = f a := by unfold z1; rw [if_pos h]
theorem c58 (n : Nat) (C : Nat → Curve) (n1 : 1 ≤ n) (n3 : n ≤ 3) (hC : ∀ i, i < n → (C i).Fine) (turns : Nat) (ht : turns ≤ 400) : ContractN Go.Proofs.Try.prog 58 [chn n C, I turns] (.rows 2 1 (turns + 1) (fun j _ => I (Ls C (n - 1) j))) (.vec 0 (turns + 1) 1) := by
  refine contractN_of Go.Proofs.Try.func58 rfl (by kernel_rfl) follows (by kernel_rfl) _ _ _ (by rw [Go.Proofs.Try.ntmps58]; simp) (by simp only [OldL, chn_old, Old, I, and_self]) ?_
  unfold I
  conv => arg 4; unfold chn Curve.sv ints
  have eT : ((turns : Int) + 1).toNat = turns + 1 := by omega
  (repeat' (first | with_reducible refine splitVC_d (fun _ => ?_) (fun _ => ?_) | ((with_reducible refine And.intro ?_ ?_); focus (first | trivial | (simp only [InK]; omega) | omega | (simp only [InK, ne_eq, and_true, true_and]; omega))) | simp -dsimp only [↓RP, RQ0, RQ1, RQ2, RQ3, implies_true, forall_const, Nat.reduceMul, reduceIte, reduceCtorEq, Nat.reduceAdd, Nat.reduceEqDiff, Nat.reduceLT, Nat.reduceLeDiff, eT, by2, TY, Int.toNat_natCast, Go.Proofs.Try.results58]))
  refine loop_vc (fun (k : Nat) => k ≤ turns + 1) (fun k => ⟨[(0, .arr false false n 1 (fun i _ => .arr false false (C i).m 1 (fun j _ => .val (.int .i64 ((C i).u j))))), (1, .val (.int .i64 turns)), (5, .vec 60 (turns + 1) 1), (6, .val (.int .i64 k))], [(60, .rows 2 1 (turns + 1) (fun j _ => .val (.int .i64 (z1 (C 0).L1 k j))))], 61⟩) (fun k => turns + 1 - k) 0 (Nat.zero_le _) (weak [(60, some 3)] [] ?_ ?_ ?_) fun k hk => ?_
  · (simp -dsimp only [↓RP, RQ0, RQ1, RQ2, RQ3, implies_true, forall_const, Nat.reduceMul, reduceIte, reduceCtorEq, Nat.reduceAdd, Nat.reduceEqDiff, Nat.reduceLT, Nat.reduceLeDiff]); all_goals simp
  · (simp -dsimp only [↓RP, RQ0, RQ1, RQ2, RQ3, implies_true, forall_const, Nat.reduceMul, reduceIte, reduceCtorEq, Nat.reduceAdd, Nat.reduceEqDiff, Nat.reduceLT, Nat.reduceLeDiff, z1_zero]); all_goals (try simp)
  · (simp -dsimp only [↓RP, RQ0, RQ1, RQ2, RQ3, implies_true, forall_const, Nat.reduceMul, reduceIte, reduceCtorEq, Nat.reduceAdd, Nat.reduceEqDiff, Nat.reduceLT, Nat.reduceLeDiff]); all_goals simp
  by_cases hlt : k < turns + 1
  · have hL := L1_bound (C 0) (hC 0 (by omega)) k (by omega)
    (repeat' (first | with_reducible refine splitVC_d (fun _ => ?_) (fun _ => ?_) | ((with_reducible refine And.intro ?_ ?_); focus (first | trivial | (simp only [InK]; omega) | omega | (simp only [InK, ne_eq, and_true, true_and]; omega))) | simp -dsimp only [↓RP, RQ0, RQ1, RQ2, RQ3, implies_true, forall_const, Nat.reduceMul, reduceIte, reduceCtorEq, Nat.reduceAdd, Nat.reduceEqDiff, Nat.reduceLT, Nat.reduceLeDiff, eT, by2, TY, Int.toNat_natCast, Go.Proofs.Try.results58]))
    all_goals first | (exfalso; omega) | skip
    refine callVC (c82 (C 0) (hC 0 (by omega)) k (by omega)) (by (simp -dsimp only [↓RP, RQ0, RQ1, RQ2, RQ3, implies_true, forall_const, Nat.reduceMul, reduceIte, reduceCtorEq, Nat.reduceAdd, Nat.reduceEqDiff, Nat.reduceLT, Nat.reduceLeDiff, Curve.sv, ints, I]); all_goals simp) (by (simp -dsimp only [↓RP, RQ0, RQ1, RQ2, RQ3, implies_true, forall_const, Nat.reduceMul, reduceIte, reduceCtorEq, Nat.reduceAdd, Nat.reduceEqDiff, Nat.reduceLT, Nat.reduceLeDiff, I])) ?_
    (repeat' (first | with_reducible refine splitVC_d (fun _ => ?_) (fun _ => ?_) | ((with_reducible refine And.intro ?_ ?_); focus (first | trivial | (simp only [InK]; omega) | omega | (simp only [InK, ne_eq, and_true, true_and]; omega))) | simp -dsimp only [↓RP, RQ0, RQ1, RQ2, RQ3, implies_true, forall_const, Nat.reduceMul, reduceIte, reduceCtorEq, Nat.reduceAdd, Nat.reduceEqDiff, Nat.reduceLT, Nat.reduceLeDiff, I, eT, by2, TY, Int.toNat_natCast, Go.Proofs.Try.results58]))
    all_goals first | (exfalso; omega) | skip
    refine ⟨k + 1, by omega, by omega, weak [] [] ?_ ?_ ?_⟩
    · (simp -dsimp only [↓RP, RQ0, RQ1, RQ2, RQ3, implies_true, forall_const, Nat.reduceMul, reduceIte, reduceCtorEq, Nat.reduceAdd, Nat.reduceEqDiff, Nat.reduceLT, Nat.reduceLeDiff]); all_goals simp
    · (simp -dsimp only [↓RP, RQ0, RQ1, RQ2, RQ3, implies_true, forall_const, Nat.reduceMul, reduceIte, reduceCtorEq, Nat.reduceAdd, Nat.reduceEqDiff, Nat.reduceLT, Nat.reduceLeDiff]); all_goals (try simp)
      exact fun a ha => z1_put (C 0).L1 k a
    · (simp -dsimp only [↓RP, RQ0, RQ1, RQ2, RQ3, implies_true, forall_const, Nat.reduceMul, reduceIte, reduceCtorEq, Nat.reduceAdd, Nat.reduceEqDiff, Nat.reduceLT, Nat.reduceLeDiff]); all_goals simp
  · have hke : k = turns + 1 := by omega
    subst hke
    (repeat' (first | with_reducible refine splitVC_d (fun _ => ?_) (fun _ => ?_) | ((with_reducible refine And.intro ?_ ?_); focus (first | trivial | (simp only [InK]; omega) | omega | (simp only [InK, ne_eq, and_true, true_and]; omega))) | simp -dsimp only [↓RP, RQ0, RQ1, RQ2, RQ3, implies_true, forall_const, Nat.reduceMul, reduceIte, reduceCtorEq, Nat.reduceAdd, Nat.reduceEqDiff, Nat.reduceLT, Nat.reduceLeDiff, eT, by2, TY, Int.toNat_natCast, Go.Proofs.Try.results58]))
    all_goals first | (exfalso; omega) | skip
    refine loop_vc (fun (i : Nat) => i < n) (fun i => ⟨[(0, .arr false false n 1 (fun i _ => .arr false false (C i).m 1 (fun j _ => .val (.int .i64 ((C i).u j))))), (1, .val (.int .i64 turns)), (5, .vec 60 (turns + 1) 1), (7, .val (.int .i64 ((i : Int) + 1)))], [(60, .rows 2 1 (turns + 1) (fun j _ => .val (.int .i64 (Ls C i j))))], 61⟩) (fun i => n - i) 0 n1 (weak [] [] ?_ ?_ ?_) fun i hi => ?_
    · (simp -dsimp only [↓RP, RQ0, RQ1, RQ2, RQ3, implies_true, forall_const, Nat.reduceMul, reduceIte, reduceCtorEq, Nat.reduceAdd, Nat.reduceEqDiff, Nat.reduceLT, Nat.reduceLeDiff]); all_goals simp
    · (simp -dsimp only [↓RP, RQ0, RQ1, RQ2, RQ3, implies_true, forall_const, Nat.reduceMul, reduceIte, reduceCtorEq, Nat.reduceAdd, Nat.reduceEqDiff, Nat.reduceLT, Nat.reduceLeDiff]); all_goals (try simp)
      exact fun a ha => z1_end (C 0).L1 (turns + 1) a ha
    · (simp -dsimp only [↓RP, RQ0, RQ1, RQ2, RQ3, implies_true, forall_const, Nat.reduceMul, reduceIte, reduceCtorEq, Nat.reduceAdd, Nat.reduceEqDiff, Nat.reduceLT, Nat.reduceLeDiff]); all_goals simp
    by_cases hin : i + 1 < n
    · (repeat' (first | with_reducible refine splitVC_d (fun _ => ?_) (fun _ => ?_) | ((with_reducible refine And.intro ?_ ?_); focus (first | trivial | (simp only [InK]; omega) | omega | (simp only [InK, ne_eq, and_true, true_and]; omega))) | simp -dsimp only [↓RP, RQ0, RQ1, RQ2, RQ3, implies_true, forall_const, Nat.reduceMul, reduceIte, reduceCtorEq, Nat.reduceAdd, Nat.reduceEqDiff, Nat.reduceLT, Nat.reduceLeDiff, I, eT, by2, TY, Int.toNat_natCast, Go.Proofs.Try.results58]))
      all_goals first | (exfalso; omega) | skip
      refine loop_vc (fun (k : Nat) => k ≤ turns + 1) (fun k => ⟨[(0, .arr false false n 1 (fun i _ => .arr false false (C i).m 1 (fun j _ => .val (.int .i64 ((C i).u j))))), (1, .val (.int .i64 turns)), (5, .vec 60 (turns + 1) 1), (7, .val (.int .i64 ((i : Int) + 1))), (8, .vec 90 (turns + 1) 1), (9, .val (.int .i64 k))], [(90, .rows 2 1 (turns + 1) (fun j _ => .val (.int .i64 (z1 (Ls C (i + 1)) k j)))), (60, .rows 2 1 (turns + 1) (fun j _ => .val (.int .i64 (Ls C i j))))], 91⟩) (fun k => turns + 1 - k) 0 (Nat.zero_le _) (weak [(90, some 67)] [] ?_ ?_ ?_) fun k hk => ?_
      · (simp -dsimp only [↓RP, RQ0, RQ1, RQ2, RQ3, implies_true, forall_const, Nat.reduceMul, reduceIte, reduceCtorEq, Nat.reduceAdd, Nat.reduceEqDiff, Nat.reduceLT, Nat.reduceLeDiff]); all_goals simp
      · (simp -dsimp only [↓RP, RQ0, RQ1, RQ2, RQ3, implies_true, forall_const, Nat.reduceMul, reduceIte, reduceCtorEq, Nat.reduceAdd, Nat.reduceEqDiff, Nat.reduceLT, Nat.reduceLeDiff, z1_zero]); all_goals (try simp)
      · (simp -dsimp only [↓RP, RQ0, RQ1, RQ2, RQ3, implies_true, forall_const, Nat.reduceMul, reduceIte, reduceCtorEq, Nat.reduceAdd, Nat.reduceEqDiff, Nat.reduceLT, Nat.reduceLeDiff]); all_goals simp
      by_cases hlt : k < turns + 1
      · have hLs := Ls_bound C i (fun j hj => hC j (by omega)) k (by omega)
        (repeat' (first | with_reducible refine splitVC_d (fun _ => ?_) (fun _ => ?_) | ((with_reducible refine And.intro ?_ ?_); focus (first | trivial | (simp only [InK]; omega) | omega | (simp only [InK, ne_eq, and_true, true_and]; omega))) | simp -dsimp only [↓RP, RQ0, RQ1, RQ2, RQ3, implies_true, forall_const, Nat.reduceMul, reduceIte, reduceCtorEq, Nat.reduceAdd, Nat.reduceEqDiff, Nat.reduceLT, Nat.reduceLeDiff, I, eT, by2, TY, Int.toNat_natCast, Go.Proofs.Try.results58]))
        all_goals first | (exfalso; omega) | skip
        refine loop_vc (fun (P : Nat) => P ≤ k) (fun P => ⟨[(0, .arr false false n 1 (fun i _ => .arr false false (C i).m 1 (fun j _ => .val (.int .i64 ((C i).u j))))), (1, .val (.int .i64 turns)), (5, .vec 60 (turns + 1) 1), (7, .val (.int .i64 ((i : Int) + 1))), (8, .vec 90 (turns + 1) 1), (9, .val (.int .i64 k)), (10, .val (.int .i64 ((P : Int) + 1)))], [(90, .rows 2 1 (turns + 1) (fun j _ => .val (.int .i64 (z2 (Ls C (i + 1)) k (lsP C i k P) j)))), (60, .rows 2 1 (turns + 1) (fun j _ => .val (.int .i64 (Ls C i j))))], 91⟩) (fun P => k - P) 0 (Nat.zero_le _) (weak [] [] ?_ ?_ ?_) fun P hP => ?_
        · (simp -dsimp only [↓RP, RQ0, RQ1, RQ2, RQ3, implies_true, forall_const, Nat.reduceMul, reduceIte, reduceCtorEq, Nat.reduceAdd, Nat.reduceEqDiff, Nat.reduceLT, Nat.reduceLeDiff]); all_goals simp
        · (simp -dsimp only [↓RP, RQ0, RQ1, RQ2, RQ3, implies_true, forall_const, Nat.reduceMul, reduceIte, reduceCtorEq, Nat.reduceAdd, Nat.reduceEqDiff, Nat.reduceLT, Nat.reduceLeDiff, lsP_zero]); all_goals (try simp)
          exact fun a ha => z2_put (Ls C (i + 1)) k a (Ls C i k)
        · (simp -dsimp only [↓RP, RQ0, RQ1, RQ2, RQ3, implies_true, forall_const, Nat.reduceMul, reduceIte, reduceCtorEq, Nat.reduceAdd, Nat.reduceEqDiff, Nat.reduceLT, Nat.reduceLeDiff]); all_goals simp
        by_cases hPk : P < k
        · have er : (k : Int) - ((P + 1 : Nat) : Int) = ((k - (P + 1) : Nat) : Int) := by omega
          have eP : (P : Int) + 1 = ((P + 1 : Nat) : Int) := by omega
          have eI : (i : Int) + 1 = ((i + 1 : Nat) : Int) := by omega
          have b1 := lsP_bound C i (fun j hj => hC j (by omega)) k (by omega) P (by omega)
          have b2 := Ls_bound C i (fun j hj => hC j (by omega)) (k - (P + 1)) (by omega)
          have b3 := L1_bound (C (i + 1)) (hC (i + 1) (by omega)) (P + 1) (by omega)
          have b4 := z2_at (Ls C (i + 1)) k (lsP C i k P)
          have b5 := lsP_succ C i k P
          (repeat' (first | with_reducible refine splitVC_d (fun _ => ?_) (fun _ => ?_) | ((with_reducible refine And.intro ?_ ?_); focus (first | trivial | (simp only [InK]; omega) | omega | (simp only [InK, ne_eq, and_true, true_and]; omega))) | simp -dsimp only [↓RP, RQ0, RQ1, RQ2, RQ3, implies_true, forall_const, Nat.reduceMul, reduceIte, reduceCtorEq, Nat.reduceAdd, Nat.reduceEqDiff, Nat.reduceLT, Nat.reduceLeDiff, er, eP, eI, b4, I, eT, by2, TY, Int.toNat_natCast, Go.Proofs.Try.results58]))
          all_goals first | (exfalso; omega) | skip
          refine callVC (c82 (C (i + 1)) (hC (i + 1) (by omega)) (P + 1) (by omega)) (by (simp -dsimp only [↓RP, RQ0, RQ1, RQ2, RQ3, implies_true, forall_const, Nat.reduceMul, reduceIte, reduceCtorEq, Nat.reduceAdd, Nat.reduceEqDiff, Nat.reduceLT, Nat.reduceLeDiff, Curve.sv, ints, I]); all_goals simp) (by (simp -dsimp only [↓RP, RQ0, RQ1, RQ2, RQ3, implies_true, forall_const, Nat.reduceMul, reduceIte, reduceCtorEq, Nat.reduceAdd, Nat.reduceEqDiff, Nat.reduceLT, Nat.reduceLeDiff, I])) ?_
          (repeat' (first | with_reducible refine splitVC_d (fun _ => ?_) (fun _ => ?_) | ((with_reducible refine And.intro ?_ ?_); focus (first | trivial | (simp only [InK]; omega) | omega | (simp only [InK, ne_eq, and_true, true_and]; omega))) | simp -dsimp only [↓RP, RQ0, RQ1, RQ2, RQ3, implies_true, forall_const, Nat.reduceMul, reduceIte, reduceCtorEq, Nat.reduceAdd, Nat.reduceEqDiff, Nat.reduceLT, Nat.reduceLeDiff, er, eP, eI, b4, I, eT, by2, TY, Int.toNat_natCast, Go.Proofs.Try.results58]))
          all_goals first | (exfalso; omega) | skip
          refine ⟨P + 1, by omega, by omega, weak [] [] ?_ ?_ ?_⟩
          · (simp -dsimp only [↓RP, RQ0, RQ1, RQ2, RQ3, implies_true, forall_const, Nat.reduceMul, reduceIte, reduceCtorEq, Nat.reduceAdd, Nat.reduceEqDiff, Nat.reduceLT, Nat.reduceLeDiff]); all_goals simp
          · (simp -dsimp only [↓RP, RQ0, RQ1, RQ2, RQ3, implies_true, forall_const, Nat.reduceMul, reduceIte, reduceCtorEq, Nat.reduceAdd, Nat.reduceEqDiff, Nat.reduceLT, Nat.reduceLeDiff]); all_goals (try simp)
            rw [b5]
            exact fun a ha => z3_put (Ls C (i + 1)) k a _ _
          · (simp -dsimp only [↓RP, RQ0, RQ1, RQ2, RQ3, implies_true, forall_const, Nat.reduceMul, reduceIte, reduceCtorEq, Nat.reduceAdd, Nat.reduceEqDiff, Nat.reduceLT, Nat.reduceLeDiff]); all_goals simp
        · have hPe : P = k := by omega
          subst hPe
          (repeat' (first | with_reducible refine splitVC_d (fun _ => ?_) (fun _ => ?_) | ((with_reducible refine And.intro ?_ ?_); focus (first | trivial | (simp only [InK]; omega) | omega | (simp only [InK, ne_eq, and_true, true_and]; omega))) | simp -dsimp only [↓RP, RQ0, RQ1, RQ2, RQ3, implies_true, forall_const, Nat.reduceMul, reduceIte, reduceCtorEq, Nat.reduceAdd, Nat.reduceEqDiff, Nat.reduceLT, Nat.reduceLeDiff, I, eT, by2, TY, Int.toNat_natCast, Go.Proofs.Try.results58]))
          all_goals first | (exfalso; omega) | skip
          refine ⟨P + 1, by omega, by omega, weak [] [] ?_ ?_ ?_⟩
          · (simp -dsimp only [↓RP, RQ0, RQ1, RQ2, RQ3, implies_true, forall_const, Nat.reduceMul, reduceIte, reduceCtorEq, Nat.reduceAdd, Nat.reduceEqDiff, Nat.reduceLT, Nat.reduceLeDiff]); all_goals simp
          · (simp -dsimp only [↓RP, RQ0, RQ1, RQ2, RQ3, implies_true, forall_const, Nat.reduceMul, reduceIte, reduceCtorEq, Nat.reduceAdd, Nat.reduceEqDiff, Nat.reduceLT, Nat.reduceLeDiff, lsP_end, z2_end]); all_goals (try simp)
          · (simp -dsimp only [↓RP, RQ0, RQ1, RQ2, RQ3, implies_true, forall_const, Nat.reduceMul, reduceIte, reduceCtorEq, Nat.reduceAdd, Nat.reduceEqDiff, Nat.reduceLT, Nat.reduceLeDiff]); all_goals simp
      · have hke : k = turns + 1 := by omega
        subst hke
        (repeat' (first | with_reducible refine splitVC_d (fun _ => ?_) (fun _ => ?_) | ((with_reducible refine And.intro ?_ ?_); focus (first | trivial | (simp only [InK]; omega) | omega | (simp only [InK, ne_eq, and_true, true_and]; omega))) | simp -dsimp only [↓RP, RQ0, RQ1, RQ2, RQ3, implies_true, forall_const, Nat.reduceMul, reduceIte, reduceCtorEq, Nat.reduceAdd, Nat.reduceEqDiff, Nat.reduceLT, Nat.reduceLeDiff, I, eT, by2, TY, Int.toNat_natCast, Go.Proofs.Try.results58]))
        all_goals first | (exfalso; omega) | skip
        refine ⟨i + 1, hin, by omega, weak [(60, some 90)] [] ?_ ?_ ?_⟩
        · (simp -dsimp only [↓RP, RQ0, RQ1, RQ2, RQ3, implies_true, forall_const, Nat.reduceMul, reduceIte, reduceCtorEq, Nat.reduceAdd, Nat.reduceEqDiff, Nat.reduceLT, Nat.reduceLeDiff]); all_goals simp
        · (simp -dsimp only [↓RP, RQ0, RQ1, RQ2, RQ3, implies_true, forall_const, Nat.reduceMul, reduceIte, reduceCtorEq, Nat.reduceAdd, Nat.reduceEqDiff, Nat.reduceLT, Nat.reduceLeDiff]); all_goals (try simp)
          exact fun a ha => z1_end (Ls C (i + 1)) (turns + 1) a ha
        · (simp -dsimp only [↓RP, RQ0, RQ1, RQ2, RQ3, implies_true, forall_const, Nat.reduceMul, reduceIte, reduceCtorEq, Nat.reduceAdd, Nat.reduceEqDiff, Nat.reduceLT, Nat.reduceLeDiff]); all_goals simp
    · have hie : i = n - 1 := by omega
      (repeat' (first | with_reducible refine splitVC_d (fun _ => ?_) (fun _ => ?_) | ((with_reducible refine And.intro ?_ ?_); focus (first | trivial | (simp only [InK]; omega) | omega | (simp only [InK, ne_eq, and_true, true_and]; omega))) | simp -dsimp only [↓RP, RQ0, RQ1, RQ2, RQ3, implies_true, forall_const, Nat.reduceMul, reduceIte, reduceCtorEq, Nat.reduceAdd, Nat.reduceEqDiff, Nat.reduceLT, Nat.reduceLeDiff, I, eT, by2, TY, Int.toNat_natCast, Go.Proofs.Try.results58]))
      all_goals first | (exfalso; omega) | skip
      refine ⟨60, _, rfl, ?_, ?_⟩
      · (simp -dsimp only [↓RP, RQ0, RQ1, RQ2, RQ3, implies_true, forall_const, Nat.reduceMul, reduceIte, reduceCtorEq, Nat.reduceAdd, Nat.reduceEqDiff, Nat.reduceLT, Nat.reduceLeDiff, I, hie]); all_goals simp
      · (simp -dsimp only [↓RP, RQ0, RQ1, RQ2, RQ3, implies_true, forall_const, Nat.reduceMul, reduceIte, reduceCtorEq, Nat.reduceAdd, Nat.reduceEqDiff, Nat.reduceLT, Nat.reduceLeDiff])
end Go.Lg
end
section
set_option linter.unusedSimpArgs false
set_option linter.unusedVariables false
set_option maxRecDepth 100000
set_option maxHeartbeats 4000000
namespace Go.Lg
open Go.Sx
theorem c88 (last : Nat) (hl : last ≤ 1000000) (f : FuncId) (first caps : List SV) (hf : OldL first) (hc : OldL caps) (g : Nat → Int) (hg : ∀ k, k ≤ last → Contract Go.Proofs.Try.prog f (first ++ I k :: caps) (I (g k))) :
    Contract Go.Proofs.Try.prog 88 [I last, .fn (.func f) first caps] (I (foldMin g last)) := by
  refine contract_of Go.Proofs.Try.func88 rfl (by kernel_rfl) follows (by kernel_rfl) _ _ (by rw [Go.Proofs.Try.ntmps88]; simp) (by simp only [OldL, Old, I, hf, hc, and_self]) ?_
  unfold I
  (repeat' (first | with_reducible refine splitVC_d (fun _ => ?_) (fun _ => ?_) | ((with_reducible refine And.intro ?_ ?_); focus (first | trivial | (simp only [InK]; omega) | omega | (simp only [InK, ne_eq, and_true, true_and]; omega))) | simp -dsimp only [↓RP, RQ0, RQ1, RQ2, RQ3, implies_true, forall_const, Nat.reduceMul, reduceIte, reduceCtorEq, Nat.reduceAdd, Nat.reduceEqDiff, Nat.reduceLT, Nat.reduceLeDiff, TY, Go.Proofs.Try.results88]))
  refine callVC_old (hg 0 (Nat.zero_le _)) (subL_refl _ (oldL_args hf hc)) ?_
  (repeat' (first | with_reducible refine splitVC_d (fun _ => ?_) (fun _ => ?_) | ((with_reducible refine And.intro ?_ ?_); focus (first | trivial | (simp only [InK]; omega) | omega | (simp only [InK, ne_eq, and_true, true_and]; omega))) | simp -dsimp only [↓RP, RQ0, RQ1, RQ2, RQ3, implies_true, forall_const, Nat.reduceMul, reduceIte, reduceCtorEq, Nat.reduceAdd, Nat.reduceEqDiff, Nat.reduceLT, Nat.reduceLeDiff, I, TY, Go.Proofs.Try.results88]))
  refine loop_vc (fun (k : Nat) => k ≤ last) (fun k => ⟨[(0, .val (.int .i64 last)), (1, .fn (.func f) first caps), (5, .val (.int .i64 (foldMin g k))), (6, .val (.int .i64 ((k : Int) + 1)))], [], 0⟩) (fun k => last - k) 0 (Nat.zero_le _) (weak [] [] ?_ ?_ ?_) fun k hk => ?_
  · (simp -dsimp only [↓RP, RQ0, RQ1, RQ2, RQ3, implies_true, forall_const, Nat.reduceMul, reduceIte, reduceCtorEq, Nat.reduceAdd, Nat.reduceEqDiff, Nat.reduceLT, Nat.reduceLeDiff, foldMin]); all_goals (try simp)
    exact ⟨wkL_refl _ hf, wkL_refl _ hc⟩
  · (simp -dsimp only [↓RP, RQ0, RQ1, RQ2, RQ3, implies_true, forall_const, Nat.reduceMul, reduceIte, reduceCtorEq, Nat.reduceAdd, Nat.reduceEqDiff, Nat.reduceLT, Nat.reduceLeDiff])
  · (simp -dsimp only [↓RP, RQ0, RQ1, RQ2, RQ3, implies_true, forall_const, Nat.reduceMul, reduceIte, reduceCtorEq, Nat.reduceAdd, Nat.reduceEqDiff, Nat.reduceLT, Nat.reduceLeDiff])
  by_cases hlt : k < last
  · have eP : (k : Int) + 1 = ((k + 1 : Nat) : Int) := by omega
    (repeat' (first | with_reducible refine splitVC_d (fun _ => ?_) (fun _ => ?_) | ((with_reducible refine And.intro ?_ ?_); focus (first | trivial | (simp only [InK]; omega) | omega | (simp only [InK, ne_eq, and_true, true_and]; omega))) | simp -dsimp only [↓RP, RQ0, RQ1, RQ2, RQ3, implies_true, forall_const, Nat.reduceMul, reduceIte, reduceCtorEq, Nat.reduceAdd, Nat.reduceEqDiff, Nat.reduceLT, Nat.reduceLeDiff, eP, TY, Go.Proofs.Try.results88]))
    all_goals first | (exfalso; omega) | skip
    refine callVC_old (hg (k + 1) hlt) (subL_refl _ (oldL_args hf hc)) ?_
    (repeat' (first | with_reducible refine splitVC_d (fun _ => ?_) (fun _ => ?_) | ((with_reducible refine And.intro ?_ ?_); focus (first | trivial | (simp only [InK]; omega) | omega | (simp only [InK, ne_eq, and_true, true_and]; omega))) | simp -dsimp only [↓RP, RQ0, RQ1, RQ2, RQ3, implies_true, forall_const, Nat.reduceMul, reduceIte, reduceCtorEq, Nat.reduceAdd, Nat.reduceEqDiff, Nat.reduceLT, Nat.reduceLeDiff, I, eP, TY, Go.Proofs.Try.results88]))
    all_goals first | (exfalso; omega) | skip
    refine ⟨k + 1, hlt, by omega, weak [] [] ?_ ?_ ?_⟩
    · (simp -dsimp only [↓RP, RQ0, RQ1, RQ2, RQ3, implies_true, forall_const, Nat.reduceMul, reduceIte, reduceCtorEq, Nat.reduceAdd, Nat.reduceEqDiff, Nat.reduceLT, Nat.reduceLeDiff, foldMin]); all_goals (try simp)
      exact ⟨wkL_refl _ hf, wkL_refl _ hc⟩
    · (simp -dsimp only [↓RP, RQ0, RQ1, RQ2, RQ3, implies_true, forall_const, Nat.reduceMul, reduceIte, reduceCtorEq, Nat.reduceAdd, Nat.reduceEqDiff, Nat.reduceLT, Nat.reduceLeDiff])
    · (simp -dsimp only [↓RP, RQ0, RQ1, RQ2, RQ3, implies_true, forall_const, Nat.reduceMul, reduceIte, reduceCtorEq, Nat.reduceAdd, Nat.reduceEqDiff, Nat.reduceLT, Nat.reduceLeDiff])
  · have hke : k = last := by omega
    subst hke
    (repeat' (first | with_reducible refine splitVC_d (fun _ => ?_) (fun _ => ?_) | ((with_reducible refine And.intro ?_ ?_); focus (first | trivial | (simp only [InK]; omega) | omega | (simp only [InK, ne_eq, and_true, true_and]; omega))) | simp -dsimp only [↓RP, RQ0, RQ1, RQ2, RQ3, implies_true, forall_const, Nat.reduceMul, reduceIte, reduceCtorEq, Nat.reduceAdd, Nat.reduceEqDiff, Nat.reduceLT, Nat.reduceLeDiff, TY, Go.Proofs.Try.results88]))
    all_goals first | (exfalso; omega) | skip
theorem c89 (N : Nat) (f : Nat → Int) (c : Curve) (h : c.Fine) (k p : Nat) (hk : k < N) (hN : N ≤ 401) (hp : p ≤ k) (hf : ∀ j, j ≤ k → 0 ≤ f j ∧ f j ≤ 1000000) :
    Contract Go.Proofs.Try.prog 89 [I p, .ref false 1 (fun _ => ints N f), .ref false 1 (fun _ => I k), .ref false 1 (fun _ => c.sv)] (I (f (k - p) + c.L1 p)) := by
  refine contract_of Go.Proofs.Try.func89 rfl (by kernel_rfl) follows (by kernel_rfl) _ _ (by rw [Go.Proofs.Try.ntmps89]; simp) (by simp only [OldL, Old, c.old, I]; simp [Old, ints]) ?_
  have b1 := L1_bound c h p (by omega)
  have b2 := hf (k - p) (by omega)
  have er : (k : Int) - (p : Int) = ((k - p : Nat) : Int) := by omega
  unfold I
  conv => arg 4; unfold Curve.sv ints
  (repeat' (first | with_reducible refine splitVC_d (fun _ => ?_) (fun _ => ?_) | ((with_reducible refine And.intro ?_ ?_); focus (first | trivial | (simp only [InK]; omega) | omega | (simp only [InK, ne_eq, and_true, true_and]; omega))) | simp -dsimp only [↓RP, RQ0, RQ1, RQ2, RQ3, implies_true, forall_const, Nat.reduceMul, reduceIte, reduceCtorEq, Nat.reduceAdd, Nat.reduceEqDiff, Nat.reduceLT, Nat.reduceLeDiff, er, TY, Int.toNat_natCast, Go.Proofs.Try.results89]))
  all_goals first | (exfalso; omega) | skip
  refine callVC (c87 c h p (by omega)) (by (simp -dsimp only [↓RP, RQ0, RQ1, RQ2, RQ3, implies_true, forall_const, Nat.reduceMul, reduceIte, reduceCtorEq, Nat.reduceAdd, Nat.reduceEqDiff, Nat.reduceLT, Nat.reduceLeDiff, Curve.sv, ints, I]); all_goals simp) (by (simp -dsimp only [↓RP, RQ0, RQ1, RQ2, RQ3, implies_true, forall_const, Nat.reduceMul, reduceIte, reduceCtorEq, Nat.reduceAdd, Nat.reduceEqDiff, Nat.reduceLT, Nat.reduceLeDiff, I])) ?_
  (repeat' (first | with_reducible refine splitVC_d (fun _ => ?_) (fun _ => ?_) | ((with_reducible refine And.intro ?_ ?_); focus (first | trivial | (simp only [InK]; omega) | omega | (simp only [InK, ne_eq, and_true, true_and]; omega))) | simp -dsimp only [↓RP, RQ0, RQ1, RQ2, RQ3, implies_true, forall_const, Nat.reduceMul, reduceIte, reduceCtorEq, Nat.reduceAdd, Nat.reduceEqDiff, Nat.reduceLT, Nat.reduceLeDiff, I, er, TY, Int.toNat_natCast, Go.Proofs.Try.results89]))
  all_goals (first | trivial | (simp only [InK]; omega) | omega | (simp only [InK, ne_eq, and_true, true_and]; omega))
end Go.Lg
end
section
set_option linter.unusedSimpArgs false
set_option linter.unusedVariables false
set_option maxRecDepth 100000
set_option maxHeartbeats 4000000
namespace Go.Lg
open Go.Sx
theorem c66 (n : Nat) (C : Nat → Curve) (n1 : 1 ≤ n) (n3 : n ≤ 3) (hC : ∀ i, i < n → (C i).Fine) (turns : Nat) (ht : turns ≤ 400) : ContractN Go.Proofs.Try.prog 66 [chn n C, I turns] (.rows 2 1 (turns + 1) (fun j _ => I (Ls C (n - 1) j))) (.vec 0 (turns + 1) 1) := by
  refine contractN_of Go.Proofs.Try.func66 rfl (by kernel_rfl) follows (by kernel_rfl) _ _ _ (by rw [Go.Proofs.Try.ntmps66]; simp) (by simp only [OldL, chn_old, Old, I, and_self]) ?_
  unfold I
  conv => arg 4; unfold chn Curve.sv ints
  have eT : ((turns : Int) + 1).toNat = turns + 1 := by omega
  (repeat' (first | with_reducible refine splitVC_d (fun _ => ?_) (fun _ => ?_) | ((with_reducible refine And.intro ?_ ?_); focus (first | trivial | (simp only [InK]; omega) | omega | (simp only [InK, ne_eq, and_true, true_and]; omega))) | simp -dsimp only [↓RP, RQ0, RQ1, RQ2, RQ3, implies_true, forall_const, Nat.reduceMul, reduceIte, reduceCtorEq, Nat.reduceAdd, Nat.reduceEqDiff, Nat.reduceLT, Nat.reduceLeDiff, eT, by2, TY, Int.toNat_natCast, Go.Proofs.Try.results66]))
  have eN : ((n : Int) - 1).toNat = n - 1 := by omega
  refine loop_vc (fun (k : Nat) => k ≤ turns + 1) (fun k => ⟨[(0, .arr false false n 1 (fun i _ => .arr false false (C i).m 1 (fun j _ => .val (.int .i64 ((C i).u j))))), (1, .val (.int .i64 turns)), (5, .ptr 61 0), (15, .val (.int .i64 ((turns + 1 : Nat) : Int))), (16, .val (.int .i64 k))], [(61, .cells 22 [.vec 60 (turns + 1) 1]), (60, .rows 2 1 (turns + 1) (fun j _ => .val (.int .i64 (z1 (C 0).L1 k j))))], 62⟩) (fun k => turns + 1 - k) 0 (Nat.zero_le _) (weak [(61, some 4), (60, some 3)] [] ?_ ?_ ?_) fun k hk => ?_
  · (simp -dsimp only [↓RP, RQ0, RQ1, RQ2, RQ3, implies_true, forall_const, Nat.reduceMul, reduceIte, reduceCtorEq, Nat.reduceAdd, Nat.reduceEqDiff, Nat.reduceLT, Nat.reduceLeDiff]); all_goals simp
  · (simp -dsimp only [↓RP, RQ0, RQ1, RQ2, RQ3, implies_true, forall_const, Nat.reduceMul, reduceIte, reduceCtorEq, Nat.reduceAdd, Nat.reduceEqDiff, Nat.reduceLT, Nat.reduceLeDiff, z1_zero]); all_goals (try simp)
  · (simp -dsimp only [↓RP, RQ0, RQ1, RQ2, RQ3, implies_true, forall_const, Nat.reduceMul, reduceIte, reduceCtorEq, Nat.reduceAdd, Nat.reduceEqDiff, Nat.reduceLT, Nat.reduceLeDiff]); all_goals simp
  by_cases hlt : k < turns + 1
  · have hL := L1_bound (C 0) (hC 0 (by omega)) k (by omega)
    (repeat' (first | with_reducible refine splitVC_d (fun _ => ?_) (fun _ => ?_) | ((with_reducible refine And.intro ?_ ?_); focus (first | trivial | (simp only [InK]; omega) | omega | (simp only [InK, ne_eq, and_true, true_and]; omega))) | simp -dsimp only [↓RP, RQ0, RQ1, RQ2, RQ3, implies_true, forall_const, Nat.reduceMul, reduceIte, reduceCtorEq, Nat.reduceAdd, Nat.reduceEqDiff, Nat.reduceLT, Nat.reduceLeDiff, I, eT, eN, by2, TY, Int.toNat_natCast, Go.Proofs.Try.results66]))
    all_goals first | (exfalso; omega) | skip
    refine callVC (c87 (C 0) (hC 0 (by omega)) k (by omega)) (by (simp -dsimp only [↓RP, RQ0, RQ1, RQ2, RQ3, implies_true, forall_const, Nat.reduceMul, reduceIte, reduceCtorEq, Nat.reduceAdd, Nat.reduceEqDiff, Nat.reduceLT, Nat.reduceLeDiff, Curve.sv, ints, I]); all_goals simp) (by (simp -dsimp only [↓RP, RQ0, RQ1, RQ2, RQ3, implies_true, forall_const, Nat.reduceMul, reduceIte, reduceCtorEq, Nat.reduceAdd, Nat.reduceEqDiff, Nat.reduceLT, Nat.reduceLeDiff, I])) ?_
    (repeat' (first | with_reducible refine splitVC_d (fun _ => ?_) (fun _ => ?_) | ((with_reducible refine And.intro ?_ ?_); focus (first | trivial | (simp only [InK]; omega) | omega | (simp only [InK, ne_eq, and_true, true_and]; omega))) | simp -dsimp only [↓RP, RQ0, RQ1, RQ2, RQ3, implies_true, forall_const, Nat.reduceMul, reduceIte, reduceCtorEq, Nat.reduceAdd, Nat.reduceEqDiff, Nat.reduceLT, Nat.reduceLeDiff, I, eT, eN, by2, TY, Int.toNat_natCast, Go.Proofs.Try.results66]))
    all_goals first | (exfalso; omega) | skip
    refine ⟨k + 1, by omega, by omega, weak [] [] ?_ ?_ ?_⟩
    · (simp -dsimp only [↓RP, RQ0, RQ1, RQ2, RQ3, implies_true, forall_const, Nat.reduceMul, reduceIte, reduceCtorEq, Nat.reduceAdd, Nat.reduceEqDiff, Nat.reduceLT, Nat.reduceLeDiff]); all_goals simp
    · (simp -dsimp only [↓RP, RQ0, RQ1, RQ2, RQ3, implies_true, forall_const, Nat.reduceMul, reduceIte, reduceCtorEq, Nat.reduceAdd, Nat.reduceEqDiff, Nat.reduceLT, Nat.reduceLeDiff]); all_goals (try simp)
      exact fun a ha => z1_put (C 0).L1 k a
    · (simp -dsimp only [↓RP, RQ0, RQ1, RQ2, RQ3, implies_true, forall_const, Nat.reduceMul, reduceIte, reduceCtorEq, Nat.reduceAdd, Nat.reduceEqDiff, Nat.reduceLT, Nat.reduceLeDiff]); all_goals simp
  · have hke : k = turns + 1 := by omega
    subst hke
    (repeat' (first | with_reducible refine splitVC_d (fun _ => ?_) (fun _ => ?_) | ((with_reducible refine And.intro ?_ ?_); focus (first | trivial | (simp only [InK]; omega) | omega | (simp only [InK, ne_eq, and_true, true_and]; omega))) | simp -dsimp only [↓RP, RQ0, RQ1, RQ2, RQ3, implies_true, forall_const, Nat.reduceMul, reduceIte, reduceCtorEq, Nat.reduceAdd, Nat.reduceEqDiff, Nat.reduceLT, Nat.reduceLeDiff, I, eT, eN, by2, TY, Int.toNat_natCast, Go.Proofs.Try.results66]))
    all_goals first | (exfalso; omega) | skip
    refine loop_vc (fun (i : Nat) => i < n) (fun i => ⟨[(0, .arr false false n 1 (fun i _ => .arr false false (C i).m 1 (fun j _ => .val (.int .i64 ((C i).u j))))), (1, .val (.int .i64 turns)), (5, .ptr 61 0), (29, .arr false false (n - 1) 1 (fun i _ => .arr false false (C (1 + i)).m 1 (fun j _ => .val (.int .i64 ((C (1 + i)).u j))))), (30, .val (.int .i64 ((n - 1 : Nat) : Int))), (31, .val (.int .i64 i))], [(61, .cells 22 [.vec 60 (turns + 1) 1]), (60, .rows 2 1 (turns + 1) (fun j _ => .val (.int .i64 (Ls C i j))))], 62⟩) (fun i => n - i) 0 n1 (weak [] [] ?_ ?_ ?_) fun i hi => ?_
    · (simp -dsimp only [↓RP, RQ0, RQ1, RQ2, RQ3, implies_true, forall_const, Nat.reduceMul, reduceIte, reduceCtorEq, Nat.reduceAdd, Nat.reduceEqDiff, Nat.reduceLT, Nat.reduceLeDiff]); all_goals simp
    · (simp -dsimp only [↓RP, RQ0, RQ1, RQ2, RQ3, implies_true, forall_const, Nat.reduceMul, reduceIte, reduceCtorEq, Nat.reduceAdd, Nat.reduceEqDiff, Nat.reduceLT, Nat.reduceLeDiff]); all_goals (try simp)
      exact fun a ha => z1_end (C 0).L1 (turns + 1) a ha
    · (simp -dsimp only [↓RP, RQ0, RQ1, RQ2, RQ3, implies_true, forall_const, Nat.reduceMul, reduceIte, reduceCtorEq, Nat.reduceAdd, Nat.reduceEqDiff, Nat.reduceLT, Nat.reduceLeDiff]); all_goals simp
    by_cases hin : i + 1 < n
    · have e1i : 1 + i = i + 1 := by omega
      (repeat' (first | with_reducible refine splitVC_d (fun _ => ?_) (fun _ => ?_) | ((with_reducible refine And.intro ?_ ?_); focus (first | trivial | (simp only [InK]; omega) | omega | (simp only [InK, ne_eq, and_true, true_and]; omega))) | simp -dsimp only [↓RP, RQ0, RQ1, RQ2, RQ3, implies_true, forall_const, Nat.reduceMul, reduceIte, reduceCtorEq, Nat.reduceAdd, Nat.reduceEqDiff, Nat.reduceLT, Nat.reduceLeDiff, I, eT, eN, by2, TY, Int.toNat_natCast, Go.Proofs.Try.results66]))
      all_goals first | (exfalso; omega) | skip
      refine loop_vc (fun (k : Nat) => k ≤ turns + 1) (fun k => ⟨[(0, .arr false false n 1 (fun i _ => .arr false false (C i).m 1 (fun j _ => .val (.int .i64 ((C i).u j))))), (1, .val (.int .i64 turns)), (5, .ptr 61 0), (29, .arr false false (n - 1) 1 (fun i _ => .arr false false (C (1 + i)).m 1 (fun j _ => .val (.int .i64 ((C (1 + i)).u j))))), (30, .val (.int .i64 ((n - 1 : Nat) : Int))), (31, .val (.int .i64 i)), (8, .ptr 62 0), (9, .vec 90 (turns + 1) 1), (39, .val (.int .i64 ((turns + 1 : Nat) : Int))), (40, .val (.int .i64 k))], [(90, .rows 2 1 (turns + 1) (fun j _ => .val (.int .i64 (z1 (Ls C (i + 1)) k j)))), (62, .cells 22 [.arr false false (C (1 + i)).m 1 (fun j _ => .val (.int .i64 ((C (1 + i)).u j)))]), (61, .cells 22 [.vec 60 (turns + 1) 1]), (60, .rows 2 1 (turns + 1) (fun j _ => .val (.int .i64 (Ls C i j))))], 91⟩) (fun k => turns + 1 - k) 0 (Nat.zero_le _) (weak [(90, some 69), (62, some 65)] [] ?_ ?_ ?_) fun k hk => ?_
      · (simp -dsimp only [↓RP, RQ0, RQ1, RQ2, RQ3, implies_true, forall_const, Nat.reduceMul, reduceIte, reduceCtorEq, Nat.reduceAdd, Nat.reduceEqDiff, Nat.reduceLT, Nat.reduceLeDiff]); all_goals simp
      · (simp -dsimp only [↓RP, RQ0, RQ1, RQ2, RQ3, implies_true, forall_const, Nat.reduceMul, reduceIte, reduceCtorEq, Nat.reduceAdd, Nat.reduceEqDiff, Nat.reduceLT, Nat.reduceLeDiff, z1_zero]); all_goals (try simp)
      · (simp -dsimp only [↓RP, RQ0, RQ1, RQ2, RQ3, implies_true, forall_const, Nat.reduceMul, reduceIte, reduceCtorEq, Nat.reduceAdd, Nat.reduceEqDiff, Nat.reduceLT, Nat.reduceLeDiff]); all_goals simp
      by_cases hlt : k < turns + 1
      · (repeat' (first | with_reducible refine splitVC_d (fun _ => ?_) (fun _ => ?_) | ((with_reducible refine And.intro ?_ ?_); focus (first | trivial | (simp only [InK]; omega) | omega | (simp only [InK, ne_eq, and_true, true_and]; omega))) | simp -dsimp only [↓RP, RQ0, RQ1, RQ2, RQ3, implies_true, forall_const, Nat.reduceMul, reduceIte, reduceCtorEq, Nat.reduceAdd, Nat.reduceEqDiff, Nat.reduceLT, Nat.reduceLeDiff, I, eT, eN, by2, TY, Int.toNat_natCast, Go.Proofs.Try.results66]))
        all_goals first | (exfalso; omega) | skip
        refine callVC (c88 k (by omega) 89 [] [.ref false 1 (fun _ => ints (turns + 1) (Ls C i)), .ref false 1 (fun _ => I k), .ref false 1 (fun _ => (C (1 + i)).sv)] trivial (by simp [OldL, Old, Curve.sv, ints, I]) (fun p => Ls C i (k - p) + (C (1 + i)).L1 p) fun p hp => c89 (turns + 1) (Ls C i) (C (1 + i)) (hC (1 + i) (by omega)) k p hlt (by omega) hp fun j hj => ?_) ?_ (by (simp -dsimp only [↓RP, RQ0, RQ1, RQ2, RQ3, implies_true, forall_const, Nat.reduceMul, reduceIte, reduceCtorEq, Nat.reduceAdd, Nat.reduceEqDiff, Nat.reduceLT, Nat.reduceLeDiff, I])) ?_
        · have := Ls_bound C i (fun j hj => hC j (by omega)) j (by omega); omega
        · (simp -dsimp only [↓RP, RQ0, RQ1, RQ2, RQ3, implies_true, forall_const, Nat.reduceMul, reduceIte, reduceCtorEq, Nat.reduceAdd, Nat.reduceEqDiff, Nat.reduceLT, Nat.reduceLeDiff, Curve.sv, ints, I]); all_goals (try simp)
          refine ⟨?_, ?_⟩
          · (simp -dsimp only [↓RP, RQ0, RQ1, RQ2, RQ3, implies_true, forall_const, Nat.reduceMul, reduceIte, reduceCtorEq, Nat.reduceAdd, Nat.reduceEqDiff, Nat.reduceLT, Nat.reduceLeDiff]); all_goals simp
          · (simp -dsimp only [↓RP, RQ0, RQ1, RQ2, RQ3, implies_true, forall_const, Nat.reduceMul, reduceIte, reduceCtorEq, Nat.reduceAdd, Nat.reduceEqDiff, Nat.reduceLT, Nat.reduceLeDiff]); all_goals simp
        have eF : foldMin (fun p => Ls C i (k - p) + (C (1 + i)).L1 p) k = Ls C (i + 1) k := by rw [e1i]; rfl
        (repeat' (first | with_reducible refine splitVC_d (fun _ => ?_) (fun _ => ?_) | ((with_reducible refine And.intro ?_ ?_); focus (first | trivial | (simp only [InK]; omega) | omega | (simp only [InK, ne_eq, and_true, true_and]; omega))) | simp -dsimp only [↓RP, RQ0, RQ1, RQ2, RQ3, implies_true, forall_const, Nat.reduceMul, reduceIte, reduceCtorEq, Nat.reduceAdd, Nat.reduceEqDiff, Nat.reduceLT, Nat.reduceLeDiff, eF, I, eT, eN, by2, TY, Int.toNat_natCast, Go.Proofs.Try.results66]))
        all_goals first | (exfalso; omega) | skip
        refine ⟨k + 1, by omega, by omega, weak [] [] ?_ ?_ ?_⟩
        · (simp -dsimp only [↓RP, RQ0, RQ1, RQ2, RQ3, implies_true, forall_const, Nat.reduceMul, reduceIte, reduceCtorEq, Nat.reduceAdd, Nat.reduceEqDiff, Nat.reduceLT, Nat.reduceLeDiff]); all_goals simp
        · (simp -dsimp only [↓RP, RQ0, RQ1, RQ2, RQ3, implies_true, forall_const, Nat.reduceMul, reduceIte, reduceCtorEq, Nat.reduceAdd, Nat.reduceEqDiff, Nat.reduceLT, Nat.reduceLeDiff]); all_goals (try simp)
          exact fun a ha => z1_put (Ls C (i + 1)) k a
        · (simp -dsimp only [↓RP, RQ0, RQ1, RQ2, RQ3, implies_true, forall_const, Nat.reduceMul, reduceIte, reduceCtorEq, Nat.reduceAdd, Nat.reduceEqDiff, Nat.reduceLT, Nat.reduceLeDiff]); all_goals simp
      · have hke : k = turns + 1 := by omega
        subst hke
        (repeat' (first | with_reducible refine splitVC_d (fun _ => ?_) (fun _ => ?_) | ((with_reducible refine And.intro ?_ ?_); focus (first | trivial | (simp only [InK]; omega) | omega | (simp only [InK, ne_eq, and_true, true_and]; omega))) | simp -dsimp only [↓RP, RQ0, RQ1, RQ2, RQ3, implies_true, forall_const, Nat.reduceMul, reduceIte, reduceCtorEq, Nat.reduceAdd, Nat.reduceEqDiff, Nat.reduceLT, Nat.reduceLeDiff, I, eT, eN, by2, TY, Int.toNat_natCast, Go.Proofs.Try.results66]))
        all_goals first | (exfalso; omega) | skip
        refine ⟨i + 1, hin, by omega, weak [(60, some 90)] [] ?_ ?_ ?_⟩
        · (simp -dsimp only [↓RP, RQ0, RQ1, RQ2, RQ3, implies_true, forall_const, Nat.reduceMul, reduceIte, reduceCtorEq, Nat.reduceAdd, Nat.reduceEqDiff, Nat.reduceLT, Nat.reduceLeDiff]); all_goals simp
        · (simp -dsimp only [↓RP, RQ0, RQ1, RQ2, RQ3, implies_true, forall_const, Nat.reduceMul, reduceIte, reduceCtorEq, Nat.reduceAdd, Nat.reduceEqDiff, Nat.reduceLT, Nat.reduceLeDiff]); all_goals (try simp)
          exact fun a ha => z1_end (Ls C (i + 1)) (turns + 1) a ha
        · (simp -dsimp only [↓RP, RQ0, RQ1, RQ2, RQ3, implies_true, forall_const, Nat.reduceMul, reduceIte, reduceCtorEq, Nat.reduceAdd, Nat.reduceEqDiff, Nat.reduceLT, Nat.reduceLeDiff]); all_goals simp
    · have hie : i = n - 1 := by omega
      (repeat' (first | with_reducible refine splitVC_d (fun _ => ?_) (fun _ => ?_) | ((with_reducible refine And.intro ?_ ?_); focus (first | trivial | (simp only [InK]; omega) | omega | (simp only [InK, ne_eq, and_true, true_and]; omega))) | simp -dsimp only [↓RP, RQ0, RQ1, RQ2, RQ3, implies_true, forall_const, Nat.reduceMul, reduceIte, reduceCtorEq, Nat.reduceAdd, Nat.reduceEqDiff, Nat.reduceLT, Nat.reduceLeDiff, I, eT, eN, by2, TY, Int.toNat_natCast, Go.Proofs.Try.results66]))
      all_goals first | (exfalso; omega) | skip
      refine ⟨60, _, rfl, ?_, ?_⟩
      · (simp -dsimp only [↓RP, RQ0, RQ1, RQ2, RQ3, implies_true, forall_const, Nat.reduceMul, reduceIte, reduceCtorEq, Nat.reduceAdd, Nat.reduceEqDiff, Nat.reduceLT, Nat.reduceLeDiff, I, hie]); all_goals simp
      · (simp -dsimp only [↓RP, RQ0, RQ1, RQ2, RQ3, implies_true, forall_const, Nat.reduceMul, reduceIte, reduceCtorEq, Nat.reduceAdd, Nat.reduceEqDiff, Nat.reduceLT, Nat.reduceLeDiff])
end Go.Lg
end
section
set_option linter.unusedSimpArgs false
set_option linter.unusedVariables false
set_option maxRecDepth 100000
set_option maxHeartbeats 4000000
namespace Go.Lg
open Go.Sx
def leastV (n : Nat) (C : Nat → Curve) (t : Int) : Int × Int := if cErr n C = 0 then (if 0 ≤ t ∧ t ≤ 200 then (Ls C (n - 1) t.toNat, 0) else (0, 3)) else (0, cErr n C)
theorem c22 (n : Nat) (C : Nat → Curve) (hm : ∀ i, i < n → (C i).m ≤ 1000000) (t : Int) : Contract Go.Proofs.Try.prog 22 [chn n C, I t] (.tup [I (leastV n C t).1, I (leastV n C t).2]) := by
  refine contract_of Go.Proofs.Try.func22 rfl (by kernel_rfl) follows (by kernel_rfl) _ _ (by rw [Go.Proofs.Try.ntmps22]; simp) (by simp only [OldL, chn_old, Old, I, and_self]) ?_
  unfold I
  conv => arg 4; unfold chn
  (repeat' (first | with_reducible refine splitVC_d (fun _ => ?_) (fun _ => ?_) | ((with_reducible refine And.intro ?_ ?_); focus (first | trivial | (simp only [InK]; omega) | omega | (simp only [InK, ne_eq, and_true, true_and]; omega))) | simp -dsimp only [↓RP, RQ0, RQ1, RQ2, RQ3, implies_true, forall_const, Nat.reduceMul, reduceIte, reduceCtorEq, Nat.reduceAdd, Nat.reduceEqDiff, Nat.reduceLT, Nat.reduceLeDiff, TY, Go.Proofs.Try.results22]))
  refine callVC (c65 n C hm) (by (simp -dsimp only [↓RP, RQ0, RQ1, RQ2, RQ3, implies_true, forall_const, Nat.reduceMul, reduceIte, reduceCtorEq, Nat.reduceAdd, Nat.reduceEqDiff, Nat.reduceLT, Nat.reduceLeDiff, chn, I]); all_goals simp) (by (simp -dsimp only [↓RP, RQ0, RQ1, RQ2, RQ3, implies_true, forall_const, Nat.reduceMul, reduceIte, reduceCtorEq, Nat.reduceAdd, Nat.reduceEqDiff, Nat.reduceLT, Nat.reduceLeDiff, I])) ?_
  (repeat' (first | with_reducible refine splitVC_d (fun _ => ?_) (fun _ => ?_) | ((with_reducible refine And.intro ?_ ?_); focus (first | trivial | (simp only [InK]; omega) | omega | (simp only [InK, ne_eq, and_true, true_and]; omega))) | simp -dsimp only [↓RP, RQ0, RQ1, RQ2, RQ3, implies_true, forall_const, Nat.reduceMul, reduceIte, reduceCtorEq, Nat.reduceAdd, Nat.reduceEqDiff, Nat.reduceLT, Nat.reduceLeDiff, I, TY, Go.Proofs.Try.results22]))
  rotate_left
  · rename_i he
    unfold leastV
    rw [if_neg he]
    exact ⟨rfl, rfl⟩
  rename_i he
  obtain ⟨n1, n3, hf⟩ := cErr_fine he
  refine callVC (c62_1 t 0 200) (by (simp -dsimp only [↓RP, RQ0, RQ1, RQ2, RQ3, implies_true, forall_const, Nat.reduceMul, reduceIte, reduceCtorEq, Nat.reduceAdd, Nat.reduceEqDiff, Nat.reduceLT, Nat.reduceLeDiff, ints, I]); all_goals simp) (by (simp -dsimp only [↓RP, RQ0, RQ1, RQ2, RQ3, implies_true, forall_const, Nat.reduceMul, reduceIte, reduceCtorEq, Nat.reduceAdd, Nat.reduceEqDiff, Nat.reduceLT, Nat.reduceLeDiff, B])) ?_
  (repeat' (first | with_reducible refine splitVC_d (fun _ => ?_) (fun _ => ?_) | ((with_reducible refine And.intro ?_ ?_); focus (first | trivial | (simp only [InK]; omega) | omega | (simp only [InK, ne_eq, and_true, true_and]; omega))) | simp -dsimp only [↓RP, RQ0, RQ1, RQ2, RQ3, implies_true, forall_const, Nat.reduceMul, reduceIte, reduceCtorEq, Nat.reduceAdd, Nat.reduceEqDiff, Nat.reduceLT, Nat.reduceLeDiff, B, TY, Go.Proofs.Try.results22]))
  rotate_left
  · rename_i ht
    unfold leastV
    rw [if_pos he, if_neg ht]
    exact ⟨rfl, rfl⟩
  rename_i ht
  obtain ⟨k, rfl⟩ : ∃ k : Nat, t = k := ⟨t.toNat, by omega⟩
  have e0 : leastV n C k = (Ls C (n - 1) k, 0) := by unfold leastV; rw [if_pos he, if_pos ht]; rfl
  rw [e0]
  refine callN_old (c66 n C n1 n3 hf k (by omega)) (by (simp -dsimp only [↓RP, RQ0, RQ1, RQ2, RQ3, implies_true, forall_const, Nat.reduceMul, reduceIte, reduceCtorEq, Nat.reduceAdd, Nat.reduceEqDiff, Nat.reduceLT, Nat.reduceLeDiff, chn, I]); all_goals simp) (by (simp -dsimp only [↓RP, RQ0, RQ1, RQ2, RQ3, implies_true, forall_const, Nat.reduceMul, reduceIte, reduceCtorEq, Nat.reduceAdd, Nat.reduceEqDiff, Nat.reduceLT, Nat.reduceLeDiff, I]); all_goals simp) (by (simp -dsimp only [↓RP, RQ0, RQ1, RQ2, RQ3, implies_true, forall_const, Nat.reduceMul, reduceIte, reduceCtorEq, Nat.reduceAdd, Nat.reduceEqDiff, Nat.reduceLT, Nat.reduceLeDiff, I]); all_goals simp) ?_
  (repeat' (first | with_reducible refine splitVC_d (fun _ => ?_) (fun _ => ?_) | ((with_reducible refine And.intro ?_ ?_); focus (first | trivial | (simp only [InK]; omega) | omega | (simp only [InK, ne_eq, and_true, true_and]; omega))) | simp -dsimp only [↓RP, RQ0, RQ1, RQ2, RQ3, implies_true, forall_const, Nat.reduceMul, reduceIte, reduceCtorEq, Nat.reduceAdd, Nat.reduceEqDiff, Nat.reduceLT, Nat.reduceLeDiff, I, TY, Int.toNat_natCast, Go.Proofs.Try.results22]))
  all_goals omega
def rateV (c : Curve) (comes : Bool) : SV × Int := if c.err = 0 then (fsv (c.rate comes), 0) else (.agg [I 0, I 0], c.err)
theorem c24 (c : Curve) (hm : c.m ≤ 1000000) (comes : Bool) : Contract Go.Proofs.Try.prog 24 [c.sv, B comes] (.tup [(rateV c comes).1, I (rateV c comes).2]) := by
  refine contract_of Go.Proofs.Try.func24 rfl (by kernel_rfl) follows (by kernel_rfl) _ _ (by rw [Go.Proofs.Try.ntmps24]; simp) (by simp [OldL, c.old]; simp [Old, B]) ?_
  unfold I B
  conv => arg 4; unfold Curve.sv ints
  (repeat' (first | with_reducible refine splitVC_d (fun _ => ?_) (fun _ => ?_) | ((with_reducible refine And.intro ?_ ?_); focus (first | trivial | (simp only [InK]; omega) | omega | (simp only [InK, ne_eq, and_true, true_and]; omega))) | simp -dsimp only [↓RP, RQ0, RQ1, RQ2, RQ3, implies_true, forall_const, Nat.reduceMul, reduceIte, reduceCtorEq, Nat.reduceAdd, Nat.reduceEqDiff, Nat.reduceLT, Nat.reduceLeDiff, TY, Go.Proofs.Try.results24]))
  refine callVC (c26 c hm) (by (simp -dsimp only [↓RP, RQ0, RQ1, RQ2, RQ3, implies_true, forall_const, Nat.reduceMul, reduceIte, reduceCtorEq, Nat.reduceAdd, Nat.reduceEqDiff, Nat.reduceLT, Nat.reduceLeDiff, Curve.sv, ints, I]); all_goals simp) (by (simp -dsimp only [↓RP, RQ0, RQ1, RQ2, RQ3, implies_true, forall_const, Nat.reduceMul, reduceIte, reduceCtorEq, Nat.reduceAdd, Nat.reduceEqDiff, Nat.reduceLT, Nat.reduceLeDiff, I])) ?_
  (repeat' (first | with_reducible refine splitVC_d (fun _ => ?_) (fun _ => ?_) | ((with_reducible refine And.intro ?_ ?_); focus (first | trivial | (simp only [InK]; omega) | omega | (simp only [InK, ne_eq, and_true, true_and]; omega))) | simp -dsimp only [↓RP, RQ0, RQ1, RQ2, RQ3, implies_true, forall_const, Nat.reduceMul, reduceIte, reduceCtorEq, Nat.reduceAdd, Nat.reduceEqDiff, Nat.reduceLT, Nat.reduceLeDiff, I, TY, Go.Proofs.Try.results24]))
  · rename_i he
    refine callVC (c67 c (Curve.fine he) comes) (by (simp -dsimp only [↓RP, RQ0, RQ1, RQ2, RQ3, implies_true, forall_const, Nat.reduceMul, reduceIte, reduceCtorEq, Nat.reduceAdd, Nat.reduceEqDiff, Nat.reduceLT, Nat.reduceLeDiff, Curve.sv, ints, I, B]); all_goals simp) (by (simp -dsimp only [↓RP, RQ0, RQ1, RQ2, RQ3, implies_true, forall_const, Nat.reduceMul, reduceIte, reduceCtorEq, Nat.reduceAdd, Nat.reduceEqDiff, Nat.reduceLT, Nat.reduceLeDiff, fsv, I])) ?_
    (repeat' (first | with_reducible refine splitVC_d (fun _ => ?_) (fun _ => ?_) | ((with_reducible refine And.intro ?_ ?_); focus (first | trivial | (simp only [InK]; omega) | omega | (simp only [InK, ne_eq, and_true, true_and]; omega))) | simp -dsimp only [↓RP, RQ0, RQ1, RQ2, RQ3, implies_true, forall_const, Nat.reduceMul, reduceIte, reduceCtorEq, Nat.reduceAdd, Nat.reduceEqDiff, Nat.reduceLT, Nat.reduceLeDiff, fsv, I, TY, Go.Proofs.Try.results24]))
    unfold rateV
    rw [if_pos he]
    (simp -dsimp only [↓RP, RQ0, RQ1, RQ2, RQ3, implies_true, forall_const, Nat.reduceMul, reduceIte, reduceCtorEq, Nat.reduceAdd, Nat.reduceEqDiff, Nat.reduceLT, Nat.reduceLeDiff, fsv, I])
  · rename_i he
    unfold rateV
    rw [if_neg he]
    (simp -dsimp only [↓RP, RQ0, RQ1, RQ2, RQ3, implies_true, forall_const, Nat.reduceMul, reduceIte, reduceCtorEq, Nat.reduceAdd, Nat.reduceEqDiff, Nat.reduceLT, Nat.reduceLeDiff, I])
end Go.Lg
end
section
set_option linter.unusedSimpArgs false
set_option linter.unusedVariables false
set_option maxRecDepth 100000
set_option maxHeartbeats 4000000
namespace Go.Lg
open Go.Sx
def fstR (C : Nat → Curve) (i : Nat) : Nat → Int
  | 0 => 0
  | k + 1 => if (C i).rErr = 0 then fstR C (i + 1) k else (C i).rErr
theorem c70 (n : Nat) (C : Nat → Curve) (hn : n ≤ 1000) (hC : ∀ i, i < n → (C i).m ≤ 1000000) : Contract Go.Proofs.Try.prog 70 [chn n C] (I (fstR C 0 n)) := by
  refine contract_of Go.Proofs.Try.func70 rfl (by kernel_rfl) follows (by kernel_rfl) _ _ (by rw [Go.Proofs.Try.ntmps70]; simp) (by simp only [OldL, chn_old, and_self]) ?_
  unfold I
  conv => arg 4; unfold chn
  (repeat' (first | with_reducible refine splitVC_d (fun _ => ?_) (fun _ => ?_) | ((with_reducible refine And.intro ?_ ?_); focus (first | trivial | (simp only [InK]; omega) | omega | (simp only [InK, ne_eq, and_true, true_and]; omega))) | simp -dsimp only [↓RP, RQ0, RQ1, RQ2, RQ3, implies_true, forall_const, Nat.reduceMul, reduceIte, reduceCtorEq, Nat.reduceAdd, Nat.reduceEqDiff, Nat.reduceLT, Nat.reduceLeDiff, TY, Int.toNat_natCast, Go.Proofs.Try.results70]))
  refine loop_vc (fun (i : Nat) => i ≤ n ∧ fstR C 0 n = fstR C i (n - i)) (fun i => ⟨[(0, .arr false false n 1 (fun i _ => .arr false false (C i).m 1 (fun j _ => .val (.int .i64 ((C i).u j))))), (5, .arr false false n 1 (fun i _ => .arr false false (C i).m 1 (fun j _ => .val (.int .i64 ((C i).u j))))), (6, .val (.int .i64 n)), (7, .val (.int .i64 i))], [], 0⟩) (fun i => n - i) 0 ⟨Nat.zero_le _, rfl⟩ (weak [] [] ?_ ?_ ?_) fun i hi => ?_
  · (simp -dsimp only [↓RP, RQ0, RQ1, RQ2, RQ3, implies_true, forall_const, Nat.reduceMul, reduceIte, reduceCtorEq, Nat.reduceAdd, Nat.reduceEqDiff, Nat.reduceLT, Nat.reduceLeDiff]); all_goals simp
  · (simp -dsimp only [↓RP, RQ0, RQ1, RQ2, RQ3, implies_true, forall_const, Nat.reduceMul, reduceIte, reduceCtorEq, Nat.reduceAdd, Nat.reduceEqDiff, Nat.reduceLT, Nat.reduceLeDiff])
  · (simp -dsimp only [↓RP, RQ0, RQ1, RQ2, RQ3, implies_true, forall_const, Nat.reduceMul, reduceIte, reduceCtorEq, Nat.reduceAdd, Nat.reduceEqDiff, Nat.reduceLT, Nat.reduceLeDiff])
  obtain ⟨hi, he⟩ := hi
  by_cases hlt : i < n
  · have es : fstR C i (n - i) = if (C i).rErr = 0 then fstR C (i + 1) (n - (i + 1)) else (C i).rErr := by
      rw [show n - i = (n - (i + 1)) + 1 by omega]; rfl
    have hm := hC i hlt
    (repeat' (first | with_reducible refine splitVC_d (fun _ => ?_) (fun _ => ?_) | ((with_reducible refine And.intro ?_ ?_); focus (first | trivial | (simp only [InK]; omega) | omega | (simp only [InK, ne_eq, and_true, true_and]; omega))) | simp -dsimp only [↓RP, RQ0, RQ1, RQ2, RQ3, implies_true, forall_const, Nat.reduceMul, reduceIte, reduceCtorEq, Nat.reduceAdd, Nat.reduceEqDiff, Nat.reduceLT, Nat.reduceLeDiff, TY, Int.toNat_natCast, Go.Proofs.Try.results70]))
    all_goals first | (exfalso; omega) | skip
    · rename_i h60
      refine I_eq ?_
      have : (C i).rErr = 6 := by unfold Curve.rErr; rw [if_pos (by omega)]
      rw [he, es, this]; rfl
    · rename_i h60
      refine callVC (c62 (C i).m (C i).u 0 10000 hm) (by (simp -dsimp only [↓RP, RQ0, RQ1, RQ2, RQ3, implies_true, forall_const, Nat.reduceMul, reduceIte, reduceCtorEq, Nat.reduceAdd, Nat.reduceEqDiff, Nat.reduceLT, Nat.reduceLeDiff, ints, I]); all_goals simp) (by (simp -dsimp only [↓RP, RQ0, RQ1, RQ2, RQ3, implies_true, forall_const, Nat.reduceMul, reduceIte, reduceCtorEq, Nat.reduceAdd, Nat.reduceEqDiff, Nat.reduceLT, Nat.reduceLeDiff, B])) ?_
      (repeat' (first | with_reducible refine splitVC_d (fun _ => ?_) (fun _ => ?_) | ((with_reducible refine And.intro ?_ ?_); focus (first | trivial | (simp only [InK]; omega) | omega | (simp only [InK, ne_eq, and_true, true_and]; omega))) | simp -dsimp only [↓RP, RQ0, RQ1, RQ2, RQ3, implies_true, forall_const, Nat.reduceMul, reduceIte, reduceCtorEq, Nat.reduceAdd, Nat.reduceEqDiff, Nat.reduceLT, Nat.reduceLeDiff, B, TY, Int.toNat_natCast, Go.Proofs.Try.results70]))
      · rename_i hin
        have e0 : (C i).rErr = 0 := by unfold Curve.rErr; rw [if_neg (by omega), if_pos (show ∀ j, j < (C i).m → 0 ≤ (C i).u j ∧ (C i).u j ≤ 10000 from hin)]
        rw [if_pos e0] at es
        refine ⟨i + 1, ⟨by omega, by rw [he, es]⟩, by omega, weak [] [] ?_ ?_ ?_⟩
        · (simp -dsimp only [↓RP, RQ0, RQ1, RQ2, RQ3, implies_true, forall_const, Nat.reduceMul, reduceIte, reduceCtorEq, Nat.reduceAdd, Nat.reduceEqDiff, Nat.reduceLT, Nat.reduceLeDiff]); all_goals simp
        · (simp -dsimp only [↓RP, RQ0, RQ1, RQ2, RQ3, implies_true, forall_const, Nat.reduceMul, reduceIte, reduceCtorEq, Nat.reduceAdd, Nat.reduceEqDiff, Nat.reduceLT, Nat.reduceLeDiff])
        · (simp -dsimp only [↓RP, RQ0, RQ1, RQ2, RQ3, implies_true, forall_const, Nat.reduceMul, reduceIte, reduceCtorEq, Nat.reduceAdd, Nat.reduceEqDiff, Nat.reduceLT, Nat.reduceLeDiff])
      · rename_i hin
        have e0 : (C i).rErr = 3 := by unfold Curve.rErr; rw [if_neg (by omega), if_neg (show ¬ ∀ j, j < (C i).m → 0 ≤ (C i).u j ∧ (C i).u j ≤ 10000 from hin)]
        refine I_eq ?_
        rw [he, es, e0]; rfl
  · have hin : i = n := by omega
    subst hin
    (repeat' (first | with_reducible refine splitVC_d (fun _ => ?_) (fun _ => ?_) | ((with_reducible refine And.intro ?_ ?_); focus (first | trivial | (simp only [InK]; omega) | omega | (simp only [InK, ne_eq, and_true, true_and]; omega))) | simp -dsimp only [↓RP, RQ0, RQ1, RQ2, RQ3, implies_true, forall_const, Nat.reduceMul, reduceIte, reduceCtorEq, Nat.reduceAdd, Nat.reduceEqDiff, Nat.reduceLT, Nat.reduceLeDiff, TY, Int.toNat_natCast, Go.Proofs.Try.results70]))
    all_goals first | (exfalso; omega) | skip
    refine I_eq ?_
    rw [he, Nat.sub_self]; rfl
theorem sumTo_ok (u : Nat → Int) (b : Int) (hb : 0 ≤ b) (m : Nat) (hu : ∀ i, i < m → 0 ≤ u i ∧ u i ≤ b) : ∀ k, k ≤ m → 0 ≤ sumTo u k ∧ sumTo u k ≤ b * k
  | 0, _ => by simp [sumTo]
  | k + 1, h => by
    have h1 := sumTo_ok u b hb m hu k (by omega)
    have h2 := hu k (by omega)
    simp only [sumTo]
    rw [show ((k + 1 : Nat) : Int) = (k : Int) + 1 from rfl, Int.mul_add, Int.mul_one]
    omega
theorem c71 (c : Curve) (hm : c.m ≤ 1000) (hu : ∀ i, i < c.m → 0 ≤ c.u i ∧ c.u i ≤ 1000000) : ContractN Go.Proofs.Try.prog 71 [c.sv] (.rows 2 1 (c.m + 1) (fun j _ => I (sumTo c.u j))) (.vec 0 (c.m + 1) 1) := by
  refine contractN_of Go.Proofs.Try.func71 rfl (by kernel_rfl) follows (by kernel_rfl) _ _ _ (by rw [Go.Proofs.Try.ntmps71]; simp) (by simp [OldL, c.old]) ?_
  unfold I
  conv => arg 4; unfold Curve.sv ints
  have eT : ((c.m : Int) + 1).toNat = c.m + 1 := by omega
  (repeat' (first | with_reducible refine splitVC_d (fun _ => ?_) (fun _ => ?_) | ((with_reducible refine And.intro ?_ ?_); focus (first | trivial | (simp only [InK]; omega) | omega | (simp only [InK, ne_eq, and_true, true_and]; omega))) | simp -dsimp only [↓RP, RQ0, RQ1, RQ2, RQ3, implies_true, forall_const, Nat.reduceMul, reduceIte, reduceCtorEq, Nat.reduceAdd, Nat.reduceEqDiff, Nat.reduceLT, Nat.reduceLeDiff, eT, by2, TY, Int.toNat_natCast, Go.Proofs.Try.results71]))
  refine ⟨⟨Nat.le_refl _, rfl⟩, ?_⟩
  refine loop_vc (fun (t : Nat) => t ≤ c.m) (fun t => ⟨[(0, .arr false false c.m 1 (fun i _ => .val (.int .i64 (c.u i)))), (3, .vec 60 (c.m + 1) 1), (11, .arr false false c.m 1 (fun i _ => .val (.int .i64 (c.u i)))), (12, .val (.int .i64 c.m)), (13, .val (.int .i64 t))], [(60, .rows 2 1 (c.m + 1) (fun j _ => .val (.int .i64 (z1 (sumTo c.u) (t + 1) j))))], 61⟩) (fun t => c.m - t) 0 (Nat.zero_le _) (weak [(60, some 4)] [] ?_ ?_ ?_) fun t ht => ?_
  · (simp -dsimp only [↓RP, RQ0, RQ1, RQ2, RQ3, implies_true, forall_const, Nat.reduceMul, reduceIte, reduceCtorEq, Nat.reduceAdd, Nat.reduceEqDiff, Nat.reduceLT, Nat.reduceLeDiff]); all_goals simp
  · (simp -dsimp only [↓RP, RQ0, RQ1, RQ2, RQ3, implies_true, forall_const, Nat.reduceMul, reduceIte, reduceCtorEq, Nat.reduceAdd, Nat.reduceEqDiff, Nat.reduceLT, Nat.reduceLeDiff]); all_goals (try simp)
    intro a _
    unfold z1
    by_cases e : a < 1
    · have : a = 0 := by omega
      subst this; rfl
    · rw [if_neg e]
  · (simp -dsimp only [↓RP, RQ0, RQ1, RQ2, RQ3, implies_true, forall_const, Nat.reduceMul, reduceIte, reduceCtorEq, Nat.reduceAdd, Nat.reduceEqDiff, Nat.reduceLT, Nat.reduceLeDiff]); all_goals simp
  by_cases hlt : t < c.m
  · have b1 := sumTo_ok c.u 1000000 (by omega) c.m hu t (by omega)
    have b2 := hu t hlt
    have eP : (t : Int) + 1 = ((t + 1 : Nat) : Int) := by omega
    have e1 : z1 (sumTo c.u) (t + 1) t = sumTo c.u t := z1_end _ _ _ (by omega)
    have e2 : sumTo c.u t + c.u t = sumTo c.u (t + 1) := rfl
    (repeat' (first | with_reducible refine splitVC_d (fun _ => ?_) (fun _ => ?_) | ((with_reducible refine And.intro ?_ ?_); focus (first | trivial | (simp only [InK]; omega) | omega | (simp only [InK, ne_eq, and_true, true_and]; omega))) | simp -dsimp only [↓RP, RQ0, RQ1, RQ2, RQ3, implies_true, forall_const, Nat.reduceMul, reduceIte, reduceCtorEq, Nat.reduceAdd, Nat.reduceEqDiff, Nat.reduceLT, Nat.reduceLeDiff, eP, e1, e2, eT, by2, TY, Int.toNat_natCast, Go.Proofs.Try.results71]))
    all_goals first | (exfalso; omega) | skip
    refine ⟨t + 1, by omega, by omega, weak [] [] ?_ ?_ ?_⟩
    · (simp -dsimp only [↓RP, RQ0, RQ1, RQ2, RQ3, implies_true, forall_const, Nat.reduceMul, reduceIte, reduceCtorEq, Nat.reduceAdd, Nat.reduceEqDiff, Nat.reduceLT, Nat.reduceLeDiff]); all_goals simp
    · (simp -dsimp only [↓RP, RQ0, RQ1, RQ2, RQ3, implies_true, forall_const, Nat.reduceMul, reduceIte, reduceCtorEq, Nat.reduceAdd, Nat.reduceEqDiff, Nat.reduceLT, Nat.reduceLeDiff]); all_goals (try simp)
      exact fun a ha => z1_put (sumTo c.u) (t + 1) a
    · (simp -dsimp only [↓RP, RQ0, RQ1, RQ2, RQ3, implies_true, forall_const, Nat.reduceMul, reduceIte, reduceCtorEq, Nat.reduceAdd, Nat.reduceEqDiff, Nat.reduceLT, Nat.reduceLeDiff]); all_goals simp
  · have hte : t = c.m := by omega
    subst hte
    (repeat' (first | with_reducible refine splitVC_d (fun _ => ?_) (fun _ => ?_) | ((with_reducible refine And.intro ?_ ?_); focus (first | trivial | (simp only [InK]; omega) | omega | (simp only [InK, ne_eq, and_true, true_and]; omega))) | simp -dsimp only [↓RP, RQ0, RQ1, RQ2, RQ3, implies_true, forall_const, Nat.reduceMul, reduceIte, reduceCtorEq, Nat.reduceAdd, Nat.reduceEqDiff, Nat.reduceLT, Nat.reduceLeDiff, eT, by2, TY, Int.toNat_natCast, Go.Proofs.Try.results71]))
    all_goals first | (exfalso; omega) | skip
    refine ⟨60, _, rfl, ?_, ?_⟩
    · (simp -dsimp only [↓RP, RQ0, RQ1, RQ2, RQ3, implies_true, forall_const, Nat.reduceMul, reduceIte, reduceCtorEq, Nat.reduceAdd, Nat.reduceEqDiff, Nat.reduceLT, Nat.reduceLeDiff, I]); all_goals (try simp)
      exact fun a ha => z1_end _ _ _ ha
    · (simp -dsimp only [↓RP, RQ0, RQ1, RQ2, RQ3, implies_true, forall_const, Nat.reduceMul, reduceIte, reduceCtorEq, Nat.reduceAdd, Nat.reduceEqDiff, Nat.reduceLT, Nat.reduceLeDiff])
theorem c73 (N : Nat) (f : Nat → Int) (hN : N ≤ 1000) (hf : ∀ i, i < N → 0 ≤ f i ∧ f i ≤ 1000000000) : ContractN Go.Proofs.Try.prog 73 [ints N f] (.rows 2 1 (N - 1) (fun j _ => I (f (j + 1) - f j))) (.vec 0 (N - 1) 1) := by
  refine contractN_of Go.Proofs.Try.func73 rfl (by kernel_rfl) follows (by kernel_rfl) _ _ _ (by rw [Go.Proofs.Try.ntmps73]; simp) (by simp [OldL, Old, ints]) ?_
  unfold I
  conv => arg 4; unfold ints
  (repeat' (first | with_reducible refine splitVC_d (fun _ => ?_) (fun _ => ?_) | ((with_reducible refine And.intro ?_ ?_); focus (first | trivial | (simp only [InK]; omega) | omega | (simp only [InK, ne_eq, and_true, true_and]; omega))) | simp -dsimp only [↓RP, RQ0, RQ1, RQ2, RQ3, implies_true, forall_const, Nat.reduceMul, reduceIte, reduceCtorEq, Nat.reduceAdd, Nat.reduceEqDiff, Nat.reduceLT, Nat.reduceLeDiff, by2, TY, Int.toNat_natCast, Go.Proofs.Try.results73]))
  refine loop_vc (fun (t : Nat) => t ≤ N - 1) (fun t => ⟨[(0, .arr false false N 1 (fun i _ => .val (.int .i64 (f i)))), (3, .vec 60 t 1), (4, .val (.int .i64 ((t : Int) + 1)))], [(60, .rows 2 1 t (fun j _ => .val (.int .i64 (f (j + 1) - f j))))], 61⟩) (fun t => N - 1 - t) 0 (Nat.zero_le _) (weak [(60, none)] [] ?_ ?_ ?_) fun t ht => ?_
  · (simp -dsimp only [↓RP, RQ0, RQ1, RQ2, RQ3, implies_true, forall_const, Nat.reduceMul, reduceIte, reduceCtorEq, Nat.reduceAdd, Nat.reduceEqDiff, Nat.reduceLT, Nat.reduceLeDiff]); all_goals simp
  · (simp -dsimp only [↓RP, RQ0, RQ1, RQ2, RQ3, implies_true, forall_const, Nat.reduceMul, reduceIte, reduceCtorEq, Nat.reduceAdd, Nat.reduceEqDiff, Nat.reduceLT, Nat.reduceLeDiff]); all_goals simp
  · (simp -dsimp only [↓RP, RQ0, RQ1, RQ2, RQ3, implies_true, forall_const, Nat.reduceMul, reduceIte, reduceCtorEq, Nat.reduceAdd, Nat.reduceEqDiff, Nat.reduceLT, Nat.reduceLeDiff]); all_goals simp
  by_cases hlt : t < N - 1
  · have b1 := hf t (by omega)
    have b2 := hf (t + 1) (by omega)
    have eP : (t : Int) + 1 = ((t + 1 : Nat) : Int) := by omega
    have eM : ((t + 1 : Nat) : Int) - 1 = (t : Int) := by omega
    (repeat' (first | with_reducible refine splitVC_d (fun _ => ?_) (fun _ => ?_) | ((with_reducible refine And.intro ?_ ?_); focus (first | trivial | (simp only [InK]; omega) | omega | (simp only [InK, ne_eq, and_true, true_and]; omega))) | simp -dsimp only [↓RP, RQ0, RQ1, RQ2, RQ3, implies_true, forall_const, Nat.reduceMul, reduceIte, reduceCtorEq, Nat.reduceAdd, Nat.reduceEqDiff, Nat.reduceLT, Nat.reduceLeDiff, eP, eM, by2, TY, Int.toNat_natCast, Go.Proofs.Try.results73]))
    all_goals first | (exfalso; omega) | skip
    refine ⟨⟨Nat.le_refl _, .inr trivial, by omega⟩, by (first | trivial | (simp only [InK]; omega) | omega | (simp only [InK, ne_eq, and_true, true_and]; omega)), t + 1, by omega, by omega, weak [(60, some 82)] [] ?_ ?_ ?_⟩
    · (simp -dsimp only [↓RP, RQ0, RQ1, RQ2, RQ3, implies_true, forall_const, Nat.reduceMul, reduceIte, reduceCtorEq, Nat.reduceAdd, Nat.reduceEqDiff, Nat.reduceLT, Nat.reduceLeDiff]); all_goals simp
    · (simp -dsimp only [↓RP, RQ0, RQ1, RQ2, RQ3, implies_true, forall_const, Nat.reduceMul, reduceIte, reduceCtorEq, Nat.reduceAdd, Nat.reduceEqDiff, Nat.reduceLT, Nat.reduceLeDiff]); all_goals (try simp)
      exact fun a h1 h2 => app2 (fun j => .val (.int .i64 (f (j + 1) - f j))) t a h1 h2
    · (simp -dsimp only [↓RP, RQ0, RQ1, RQ2, RQ3, implies_true, forall_const, Nat.reduceMul, reduceIte, reduceCtorEq, Nat.reduceAdd, Nat.reduceEqDiff, Nat.reduceLT, Nat.reduceLeDiff]); all_goals simp
  · have hte : t = N - 1 := by omega
    (repeat' (first | with_reducible refine splitVC_d (fun _ => ?_) (fun _ => ?_) | ((with_reducible refine And.intro ?_ ?_); focus (first | trivial | (simp only [InK]; omega) | omega | (simp only [InK, ne_eq, and_true, true_and]; omega))) | simp -dsimp only [↓RP, RQ0, RQ1, RQ2, RQ3, implies_true, forall_const, Nat.reduceMul, reduceIte, reduceCtorEq, Nat.reduceAdd, Nat.reduceEqDiff, Nat.reduceLT, Nat.reduceLeDiff, by2, TY, Int.toNat_natCast, Go.Proofs.Try.results73]))
    all_goals first | (exfalso; omega) | skip
    refine ⟨60, _, rfl, ?_, ?_⟩
    · (simp -dsimp only [↓RP, RQ0, RQ1, RQ2, RQ3, implies_true, forall_const, Nat.reduceMul, reduceIte, reduceCtorEq, Nat.reduceAdd, Nat.reduceEqDiff, Nat.reduceLT, Nat.reduceLeDiff, I, ← hte]); all_goals (try simp)
    · (simp -dsimp only [↓RP, RQ0, RQ1, RQ2, RQ3, implies_true, forall_const, Nat.reduceMul, reduceIte, reduceCtorEq, Nat.reduceAdd, Nat.reduceEqDiff, Nat.reduceLT, Nat.reduceLeDiff, hte])
end Go.Lg
end
