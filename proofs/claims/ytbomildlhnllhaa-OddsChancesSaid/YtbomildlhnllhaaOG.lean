/- A part of the proof. -/
import Derived.Test.YtbomildlhnllhaaOF
section
set_option linter.unusedSimpArgs false
set_option linter.unusedVariables false
set_option linter.defProp false
set_option maxRecDepth 100000
set_option maxHeartbeats 16000000
namespace Go.Od
open Go.Proofs
open Go.Sx
def byN (M : Mk) (r : Nat) (l : Bool) : Nat := (byS M.q r l M.m).getD 0
def pk (M : Mk) (l : Bool) : Nat → List Nat
 | 0 => []
 | r + 1 => pk M l r ++ (match byS M.q r l M.m with | some n => [n] | none => [])
def sureV (M : Mk) : Option (List Nat) :=
 if 0 ≤ fstI (crossV M) 0 M.run.toNat then some [byN M (fstI (crossV M) 0 M.run.toNat).toNat false, byN M (fstI (crossV M) 0 M.run.toNat).toNat true]
 else if lt ⟨1, 1⟩ (sumF (dlo M M.m) M.run.toNat) then some (pk M true M.run.toNat)
 else if lt (sumF (dhi M M.m) M.run.toNat) ⟨1, 1⟩ then some (pk M false M.run.toNat) else none
theorem nmA {a n : Nat} (h : a < n) : (∀ k, (a = n + k) = False) ∧ (∀ k, (n + k = a) = False) ∧ (a = n) = False ∧ (n = a) = False :=
 ⟨fun k => by rw [eq_iff_iff, iff_false]; omega, fun k => by rw [eq_iff_iff, iff_false]; omega, by rw [eq_iff_iff, iff_false]; omega, by rw [eq_iff_iff, iff_false]; omega⟩
theorem nmE {a b : Nat} (h : a ≠ b) : (a = b) = False ∧ (b = a) = False := ⟨by simp [h], by simp [Ne.symm h]⟩
def st86 (M : Mk) (id did mid : Nat) (rest : List (Nat × Blk)) (z : Nat × Nat × Nat × (Nat → Nat → SV)) : St :=
 match z.1 with
 | 0 => ⟨[(1, .ptr id 0), (2, .val (.slice none 0 0)), (3, .val (.bool false)), (4, .val (.slice none 0 0)), (20, .val (.int .i64 M.run)), (21, .val (.int .i64 0))], (id, .cells 96 [.ptr did 0]) :: (did, dkB M (dlo M M.m) (dhi M M.m) mid) :: (mid, mpB M M.m) :: rest, z.2.2.1⟩
 | r + 1 => ⟨[(1, .ptr id 0), (2, .val (.slice none 0 0)), (3, .val (.bool false)), (4, .vec z.2.1 (r + 1) 1), (20, .val (.int .i64 M.run)), (21, .val (.int .i64 (r + 1 : Nat)))], (z.2.1, .rows 3 1 (r + 1) z.2.2.2) :: (id, .cells 96 [.ptr did 0]) :: (did, dkB M (dlo M M.m) (dhi M M.m) mid) :: (mid, mpB M M.m) :: rest, z.2.2.1⟩
theorem st86_0 (M : Mk) (id did mid : Nat) (rest : List (Nat × Blk)) (rid nid : Nat) (row : Nat → Nat → SV) : st86 M id did mid rest (0, rid, nid, row) = ⟨[(1, .ptr id 0), (2, .val (.slice none 0 0)), (3, .val (.bool false)), (4, .val (.slice none 0 0)), (20, .val (.int .i64 M.run)), (21, .val (.int .i64 0))], (id, .cells 96 [.ptr did 0]) :: (did, dkB M (dlo M M.m) (dhi M M.m) mid) :: (mid, mpB M M.m) :: rest, nid⟩ := rfl
theorem st86_s (M : Mk) (id did mid : Nat) (rest : List (Nat × Blk)) (r rid nid : Nat) (row : Nat → Nat → SV) : st86 M id did mid rest (r + 1, rid, nid, row) = ⟨[(1, .ptr id 0), (2, .val (.slice none 0 0)), (3, .val (.bool false)), (4, .vec rid (r + 1) 1), (20, .val (.int .i64 M.run)), (21, .val (.int .i64 (r + 1 : Nat)))], (rid, .rows 3 1 (r + 1) row) :: (id, .cells 96 [.ptr did 0]) :: (did, dkB M (dlo M M.m) (dhi M M.m) mid) :: (mid, mpB M M.m) :: rest, nid⟩ := rfl
theorem dropBlk_none {l : List (Nat × Blk)} {j : Nat} (h : blk l j = none) : dropBlk l j = l := by
 induction l with
 | nil => rfl
 | cons p l ih =>
  obtain ⟨i, b⟩ := p
  simp only [blk] at h
  split at h
  ·cases h
  ·rename_i hne
   simp only [dropBlk]
   rw [if_neg hne, ih h]
theorem by_lo {q : Nat → Qt} {r : Int} : ∀ {i : Nat}, byS q r true i = none → loS q r i = ⟨0, 1⟩
 | 0, _ => rfl
 | i + 1, h => by
  simp only [byS] at h
  split at h
  ·cases h
  ·rename_i hb
   simp only [loS]
   rw [if_neg, by_lo h]
   rintro ⟨e1, e2, e3⟩
   refine hb ⟨e1, e2, ?_⟩
   unfold better; rw [if_pos e2, e1]; exact e3
theorem by_hi {q : Nat → Qt} {r : Int} : ∀ {i : Nat}, byS q r false i = none → hiS q r i = ⟨1, 1⟩
 | 0, _ => rfl
 | i + 1, h => by
  simp only [byS] at h
  split at h
  ·cases h
  ·rename_i hb
   simp only [hiS]
   rw [if_neg, by_hi h]
   rintro ⟨e1, e2, e3⟩
   refine hb ⟨e1, e2, ?_⟩
   unfold better; rw [if_neg (by rw [e2]; decide), e1]; exact e3
theorem fstI_ge {b : Nat → Bool} : ∀ {k i : Nat}, 0 ≤ fstI b i k → ∃ j, i ≤ j ∧ j < i + k ∧ fstI b i k = (j : Nat) ∧ b j = true
 | 0, i, h => by simp only [fstI] at h; omega
 | k + 1, i, h => by
  simp only [fstI] at h ⊢
  split at h
  ·rename_i hb
   rw [if_pos hb]
   exact ⟨i, by omega, by omega, rfl, hb⟩
  ·rename_i hb
   rw [if_neg hb]
   obtain ⟨j, h1, h2, h3, h4⟩ := fstI_ge h
   exact ⟨j, by omega, by omega, h3, h4⟩
theorem cross_by {M : Mk} (hf : M.Fine) {r : Nat} (h : crossV M r = true) : (∃ n, byS M.q r false M.m = some n) ∧ ∃ n, byS M.q r true M.m = some n := by
 have h := of_decide_eq_true h
 have cl := loS_ch (q := M.q) (r := r) hf.od
 have ch := hiS_ch (q := M.q) (r := r) hf.od
 constructor
 ·cases e : byS M.q r false M.m with
  | some n => exact ⟨n, rfl⟩
  | none =>
   rw [by_hi e] at h
   have h : 1 * (loS M.q r M.m).d < (loS M.q r M.m).n * 1 := h
   have := cl.nd
   omega
 ·cases e : byS M.q r true M.m with
  | some n => exact ⟨n, rfl⟩
  | none =>
   rw [by_lo e] at h
   have h : (hiS M.q r M.m).n * 1 < 0 * (hiS M.q r M.m).d := h
   have := ch.n0
   omega
theorem nodup_len : ∀ (n : Nat) (l : List Nat), l.Nodup → (∀ s, s ∈ l → s < n) → l.length ≤ n
 | 0, l, _, h => by
  cases l with
  | nil => exact Nat.le_refl _
  | cons a l => have := h a List.mem_cons_self; omega
 | n + 1, l, hn, h => by
  by_cases hm : n ∈ l
  ·have h1 := nodup_len n (l.erase n) (hn.erase n) fun s hs => by
    have h2 := (List.Nodup.mem_erase_iff hn).1 hs
    have := h s h2.2
    omega
   rw [List.length_erase_of_mem hm] at h1
   omega
  ·have := nodup_len n l hn fun s hs => by
    have := h s hs
    have : s ≠ n := fun e => hm (e ▸ hs)
    omega
   omega
theorem nodup_snoc {l : List Nat} {s : Nat} (h : l.Nodup) (hs : s ∉ l) : (l ++ [s]).Nodup := by
 rw [List.nodup_append]
 exact ⟨h, by simp, fun a ha b hb => by simp at hb; subst hb; exact fun e => hs (e ▸ ha)⟩
theorem cut_other {dom : Value → Bool} {a r : Int} {l l' : Bool} (h : l ≠ l') : cutDom dom (kv a l) (kv r l') = dom (kv r l') := by
 unfold cutDom
 cases e : eqK (kv a l) (kv r l') with
 | false => rfl
 | true =>
  have := eqK_kv.1 e
  have h2 : k2 (kv r l') = k2 (kv a l) := by rw [this]
  exact absurd h2.symm h
theorem cut_le {dom : Value → Bool} {k v : Value} (h : cutDom dom k v = true) : dom v = true := by
 unfold cutDom at h
 rw [Bool.and_eq_true] at h
 exact h.2
def st3 (M : Mk) (lay : Bool) (id did mid rid r : Nat) (row : Nat → Nat → SV) (dom : Value → Bool) (stamp : Value → Nat) (clk : Nat) (rest : List (Nat × Blk)) (z : Nat × Nat × Nat × (Nat → Nat → SV)) : St :=
 match pk M lay z.1 with
 | [] => ⟨[(1, .ptr id 0), (9, .val (.bool lay)), (11, .val (.slice none 0 0)), (91, .vec rid (r + 1) 1), (92, .val (.int .i64 (r + 1 : Nat))), (93, .val (.int .i64 z.1))], (rid, .rows 3 1 (r + 1) row) :: (id, .cells 96 [.ptr did 0]) :: (did, dkB M (dlo M M.m) (dhi M M.m) mid) :: (mid, .mapS kfS dom (bGet M.q M.m) stamp clk) :: rest, z.2.2.1⟩
 | _ :: l => ⟨[(1, .ptr id 0), (9, .val (.bool lay)), (11, .vec z.2.1 (l.length + 1) 1), (91, .vec rid (r + 1) 1), (92, .val (.int .i64 (r + 1 : Nat))), (93, .val (.int .i64 z.1))], (z.2.1, .rows 3 1 (l.length + 1) z.2.2.2) :: (rid, .rows 3 1 (r + 1) row) :: (id, .cells 96 [.ptr did 0]) :: (did, dkB M (dlo M M.m) (dhi M M.m) mid) :: (mid, .mapS kfS dom (bGet M.q M.m) stamp clk) :: rest, z.2.2.1⟩
theorem st3_n (M : Mk) (lay : Bool) (id did mid rid r : Nat) (row : Nat → Nat → SV) (dom : Value → Bool) (stamp : Value → Nat) (clk : Nat) (rest : List (Nat × Blk)) (i oid nid : Nat) (row' : Nat → Nat → SV) (h : pk M lay i = []) : st3 M lay id did mid rid r row dom stamp clk rest (i, oid, nid, row') = ⟨[(1, .ptr id 0), (9, .val (.bool lay)), (11, .val (.slice none 0 0)), (91, .vec rid (r + 1) 1), (92, .val (.int .i64 (r + 1 : Nat))), (93, .val (.int .i64 i))], (rid, .rows 3 1 (r + 1) row) :: (id, .cells 96 [.ptr did 0]) :: (did, dkB M (dlo M M.m) (dhi M M.m) mid) :: (mid, .mapS kfS dom (bGet M.q M.m) stamp clk) :: rest, nid⟩ := by
 unfold st3; simp only [h]
theorem st3_c (M : Mk) (lay : Bool) (id did mid rid r : Nat) (row : Nat → Nat → SV) (dom : Value → Bool) (stamp : Value → Nat) (clk : Nat) (rest : List (Nat × Blk)) (i oid nid : Nat) (row' : Nat → Nat → SV) {x : Nat} {l : List Nat} (h : pk M lay i = x :: l) : st3 M lay id did mid rid r row dom stamp clk rest (i, oid, nid, row') = ⟨[(1, .ptr id 0), (9, .val (.bool lay)), (11, .vec oid (l.length + 1) 1), (91, .vec rid (r + 1) 1), (92, .val (.int .i64 (r + 1 : Nat))), (93, .val (.int .i64 i))], (oid, .rows 3 1 (l.length + 1) row') :: (rid, .rows 3 1 (r + 1) row) :: (id, .cells 96 [.ptr did 0]) :: (did, dkB M (dlo M M.m) (dhi M M.m) mid) :: (mid, .mapS kfS dom (bGet M.q M.m) stamp clk) :: rest, nid⟩ := by
 unfold st3; simp only [h]
theorem pk_none {M : Mk} {l : Bool} {r : Nat} (h : byS M.q r l M.m = none) : pk M l (r + 1) = pk M l r := by simp only [pk, h, List.append_nil]
theorem pk_some {M : Mk} {l : Bool} {r n : Nat} (h : byS M.q r l M.m = some n) : pk M l (r + 1) = pk M l r ++ [n] := by simp only [pk, h]
theorem pk_len (M : Mk) (l : Bool) : ∀ r, (pk M l r).length ≤ r
 | 0 => Nat.le_refl 0
 | r + 1 => by
  have := pk_len M l r
  cases h : byS M.q r l M.m with
  | none => rw [pk_none h]; omega
  | some n => rw [pk_some h, List.length_append, List.length_singleton]; omega
theorem getD_snoc_lt {l : List Nat} {n i : Nat} (h : i < l.length) : (l ++ [n]).getD i 0 = l.getD i 0 := by
 simp [List.getD_eq_getElem?_getD, List.getElem?_append_left h]
theorem getD_snoc_eq {l : List Nat} {n : Nat} : (l ++ [n]).getD l.length 0 = n := by
 simp [List.getD_eq_getElem?_getD]
theorem by3 : bytesOf Try.prog 3 = 8 := by kernel_rfl
theorem e86 (M : Mk) (hf : M.Fine) (did mid id : Nat) (rest : List (Nat × Blk)) (hd : did < id) (hm' : mid < id) (hdm : did ≠ mid) (hr : Under rest id) (hrd : blk rest did = none) (hrm : blk rest mid = none) : EffVC Try.prog 86 [.ptr did 0] ((did, dkB M (dlo M M.m) (dhi M M.m) mid) :: (mid, mpB M M.m) :: rest) id (fun hp' nid' res => id ≤ nid' ∧
  match sureV M with
  | some l => (l = [] ∧ hp' = rest ∧ res = .tup [.val (.slice none 0 0), B true]) ∨ (∃ rid row, id ≤ rid ∧ rid < nid' ∧ (∀ i, i < l.length → row i 0 = I (l.getD i 0 : Nat)) ∧ hp' = (rid, .rows 3 1 l.length row) :: rest ∧ res = .tup [.vec rid l.length 1, B true])
  | none => hp' = (did, dkB M (dlo M M.m) (dhi M M.m) mid) :: rest ∧ res = .tup [.val (.slice none 0 0), B false]) := by
 refine eff_of follows Try.func86 rfl (by kernel_rfl) (by kernel_rfl) (by rw [Try.ntmps86]; simp) fun out => ?_
 have hr0 : blk rest id = none := hr.none (Nat.le_refl _)
 have hdr : True := trivial
 have NB : True := trivial
 have NB1 : True := trivial
 have ND := (⟨nmE hdm, nmA hd, nmA hm'⟩ : _ ∧ _ ∧ _)
 have hr5 := hf.r5
 have hr1 := hf.r1
 have hbx : ∀ x, id < x → blk ((id, .cells 96 [.ptr did 0]) :: (did, dkB M (dlo M M.m) (dhi M M.m) mid) :: (mid, mpB M M.m) :: rest) x = none := fun x hx => by
  simp only [blk]
  rw [if_neg (by omega), if_neg (by omega), if_neg (by omega)]
  exact hr.none (by omega)
 (repeat' (first | with_reducible refine splitVC_d (fun _ => ?_) (fun _ => ?_) | with_reducible refine splitVC (fun _ => ?_) (fun _ => ?_) | ((with_reducible refine And.intro ?_ ?_); focus (first | exact True.intro | omega | (simp only [InK, ne_eq, and_true, true_and]; omega) | exact ⟨.inr trivial, Nat.le_refl _, one1 _, by omega⟩ | exact ⟨.inr trivial, Nat.le_refl _, one1 _, by omega, by kernel_rfl⟩ | trivial)) | (simp -dsimp only [↓RP, RQ, implies_true, forall_const, Nat.reduceMul, reduceIte, reduceCtorEq, Nat.reduceAdd, Nat.reduceEqDiff, Nat.reduceLT, Nat.reduceLeDiff, NB, NB1, ND, hr0, hdr, dk_0, dk_22, dk_len, Nat.add_zero, Nat.add_assoc, self_F1, self_F2, effK_ret, effK_normal, TYn, TYd, TYm, TYw, QF, fsv, B, I, by2, RZ, eq_self, TY, Try.results86])))
 refine loop_vc (fun (z : Nat × Nat × Nat × (Nat → Nat → SV)) => (z.1 : Int) ≤ M.run ∧ id + 1 ≤ z.2.2.1 ∧ (0 < z.1 → id + 1 ≤ z.2.1 ∧ z.2.1 < z.2.2.1) ∧ ∀ i, i < z.1 → z.2.2.2 i 0 = .val (.int .i64 (i : Nat))) (st86 M id did mid rest) (fun z => (M.run - z.1).toNat) (0, 0, id + 10, fun _ _ => .top) ⟨by simp only []; omega, by simp only []; omega, fun h => by simp only [] at h; omega, fun i h => by simp only [] at h; omega⟩ (by rw [st86_0]; exact weakS (by simp [SubFr, Go.Sx.look]) (SubHp.refl _)) fun z hz => ?_
 obtain ⟨r, rid, nid, row⟩ := z
 obtain ⟨z1, z2, z3, z4⟩ := hz
 simp only [] at z1 z2 z3 z4
 have NB := (⟨nmA (show id < nid by omega), nmA (show did < nid by omega), nmA (show mid < nid by omega)⟩ : _ ∧ _ ∧ _)
 by_cases hlt : (r : Int) < M.run
 ·cases r with
  | zero =>
   rw [st86_0]
   (repeat' (first | with_reducible refine splitVC_d (fun _ => ?_) (fun _ => ?_) | with_reducible refine splitVC (fun _ => ?_) (fun _ => ?_) | ((with_reducible refine And.intro ?_ ?_); focus (first | exact True.intro | omega | (simp only [InK, ne_eq, and_true, true_and]; omega) | exact ⟨.inr trivial, Nat.le_refl _, one1 _, by omega⟩ | exact ⟨.inr trivial, Nat.le_refl _, one1 _, by omega, by kernel_rfl⟩ | trivial)) | (simp -dsimp only [↓RP, RQ, implies_true, forall_const, Nat.reduceMul, reduceIte, reduceCtorEq, Nat.reduceAdd, Nat.reduceEqDiff, Nat.reduceLT, Nat.reduceLeDiff, by3, NB, NB1, ND, hr0, hdr, dk_0, dk_22, dk_len, Nat.add_zero, Nat.add_assoc, self_F1, self_F2, effK_ret, effK_normal, TYn, TYd, TYm, TYw, QF, fsv, B, I, by2, RZ, eq_self, TY, Try.results86])))
   all_goals first | (exfalso; omega) | skip
   refine ⟨(0 + 1, nid + 6, nid + 10, fun i j => [SV.val (.int .i64 0)].getD (i + j) SV.top), ⟨by simp only []; omega, by simp only []; omega, fun _ => by simp only []; omega, fun i hi => ?_⟩, by simp only []; omega, ?_⟩
   rotate_left
   ·rw [st86_s]
    exact weakS (by simp [SubFr, Go.Sx.look]) (SubHp.cons (SubHp.skip (hbx _ (by omega)) (SubHp.refl _)))
   ·have e : i = 0 := by simp only [] at hi; omega
    subst e; rfl
  | succ r =>
   have ⟨z5, z6⟩ := z3 (by omega)
   have NB1 := (⟨nmE (show rid ≠ id by omega), nmE (show rid ≠ did by omega), nmE (show rid ≠ mid by omega), nmA z6⟩ : _ ∧ _ ∧ _ ∧ _)
   have hdr : dropBlk rest rid = rest := dropBlk_none (hr.none (by omega))
   rw [st86_s]
   (repeat' (first | with_reducible refine splitVC_d (fun _ => ?_) (fun _ => ?_) | with_reducible refine splitVC (fun _ => ?_) (fun _ => ?_) | ((with_reducible refine And.intro ?_ ?_); focus (first | exact True.intro | omega | (simp only [InK, ne_eq, and_true, true_and]; omega) | exact ⟨.inr trivial, Nat.le_refl _, one1 _, by omega⟩ | exact ⟨.inr trivial, Nat.le_refl _, one1 _, by omega, by kernel_rfl⟩ | trivial)) | (simp -dsimp only [↓RP, RQ, implies_true, forall_const, Nat.reduceMul, reduceIte, reduceCtorEq, Nat.reduceAdd, Nat.reduceEqDiff, Nat.reduceLT, Nat.reduceLeDiff, by3, NB, NB1, ND, hr0, hdr, dk_0, dk_22, dk_len, Nat.add_zero, Nat.add_assoc, self_F1, self_F2, effK_ret, effK_normal, TYn, TYd, TYm, TYw, QF, fsv, B, I, by2, RZ, eq_self, TY, Try.results86])))
   all_goals first | (exfalso; omega) | skip
   refine ⟨(r + 1 + 1, nid + 6, nid + 10, fun i j => if i < r + 1 then row i j else [SV.val (.int .i64 ((r + 1 : Nat) : Int))].getD (i - (r + 1) + j) SV.top), ⟨by simp only []; omega, by simp only []; omega, fun _ => by simp only []; omega, fun i hi => ?_⟩, by simp only []; omega, ?_⟩
   rotate_left
   ·rw [st86_s]
    exact weakS (by simp [SubFr, Go.Sx.look]) (SubHp.cons (SubHp.skip (hbx _ (by omega)) (SubHp.refl _)))
   ·simp only [] at hi ⊢
    by_cases e : i < r + 1
    ·rw [if_pos e]; exact z4 i e
    ·have e2 : i = r + 1 := by omega
     subst e2
     rw [if_neg e, Nat.sub_self]; rfl
 obtain ⟨r, rfl⟩ : ∃ j, r = j + 1 := ⟨r - 1, by omega⟩
 have ⟨z5, z6⟩ := z3 (by omega)
 have NB1 := (⟨nmE (show rid ≠ id by omega), nmE (show rid ≠ did by omega), nmE (show rid ≠ mid by omega), nmA z6⟩ : _ ∧ _ ∧ _ ∧ _)
 have hdr : dropBlk rest rid = rest := dropBlk_none (hr.none (by omega))
 have hn : ((r + 1 : Nat) : Int) = M.run := by omega
 rw [st86_s]
 (repeat' (first | with_reducible refine splitVC_d (fun _ => ?_) (fun _ => ?_) | with_reducible refine splitVC (fun _ => ?_) (fun _ => ?_) | ((with_reducible refine And.intro ?_ ?_); focus (first | exact True.intro | omega | (simp only [InK, ne_eq, and_true, true_and]; omega) | exact ⟨.inr trivial, Nat.le_refl _, one1 _, by omega⟩ | exact ⟨.inr trivial, Nat.le_refl _, one1 _, by omega, by kernel_rfl⟩ | trivial)) | (simp -dsimp only [↓RP, RQ, implies_true, forall_const, Nat.reduceMul, reduceIte, reduceCtorEq, Nat.reduceAdd, Nat.reduceEqDiff, Nat.reduceLT, Nat.reduceLeDiff, NB, NB1, ND, hr0, hdr, dk_0, dk_22, dk_len, Nat.add_zero, Nat.add_assoc, self_F1, self_F2, effK_ret, effK_normal, TYn, TYd, TYm, TYw, QF, fsv, B, I, by2, RZ, eq_self, TY, Try.results86])))
 all_goals first | (exfalso; omega) | skip
 have hbx2 : ∀ {X : Blk} x, id < x → x ≠ rid → blk ((rid, .rows 3 1 (r + 1) row) :: (id, .cells 96 [.ptr did 0]) :: (did, dkB M (dlo M M.m) (dhi M M.m) mid) :: (mid, X) :: rest) x = none := fun x hx hx2 => by
  simp only [blk]
  rw [if_neg hx2, if_neg (by omega), if_neg (by omega), if_neg (by omega)]
  exact hr.none (by omega)
 have hSub : ∀ hp, blk hp id = some (.cells 96 [.ptr did 0]) → blk hp did = some (dkB M (dlo M M.m) (dhi M M.m) mid) → ∀ j, j < 1 → Go.Sx.Sub hp (SV.ref false 22 (dkr M (dlo M M.m) (dhi M M.m))) ([SV.ptr did 0].getD j SV.top) ∧ j < 1 := fun hp _ h2 j hj => by
  obtain rfl : j = 0 := by omega
  refine ⟨?_, hj⟩
  show Go.Sx.Sub hp (SV.ref false 22 (dkr M (dlo M M.m) (dhi M M.m))) (SV.ptr did 0)
  simp only [Go.Sx.Sub, h2]
  intro j hj
  rw [Nat.zero_add]
  exact dkr_sub hp M _ _ mid j hj
 have hs0 : sureV M = if 0 ≤ fstI (crossV M) 0 M.run.toNat then some [byN M (fstI (crossV M) 0 M.run.toNat).toNat false, byN M (fstI (crossV M) 0 M.run.toNat).toNat true]
  else if lt ⟨1, 1⟩ (sumF (dlo M M.m) M.run.toNat) then some (pk M true M.run.toNat)
  else if lt (sumF (dhi M M.m) M.run.toNat) ⟨1, 1⟩ then some (pk M false M.run.toNat) else none := rfl
 have hnT : M.run.toNat = r + 1 := by omega
 rw [hnT] at hs0
 refine callVC (c96 M hf (r + 1) hn) (by (simp -dsimp only [↓RP, RQ, implies_true, forall_const, Nat.reduceMul, reduceIte, reduceCtorEq, Nat.reduceAdd, Nat.reduceEqDiff, Nat.reduceLT, Nat.reduceLeDiff, clo, ints, I, NB, NB1, ND]); exact ⟨⟨Nat.le_refl _, fun i j hi hj => by obtain rfl : j = 0 := (by omega); exact z4 i hi⟩, hSub _ (by simp [blk, ND, NB1]) (by simp [blk, ND, NB1])⟩) (by (simp -dsimp only [↓RP, RQ, implies_true, forall_const, Nat.reduceMul, reduceIte, reduceCtorEq, Nat.reduceAdd, Nat.reduceEqDiff, Nat.reduceLT, Nat.reduceLeDiff, fsv, I])) ?_
 by_cases hF0 : 0 ≤ fstI (crossV M) 0 (r + 1)
 ·obtain ⟨r0, _, f2, f3, f4⟩ := fstI_ge hF0
  have ⟨⟨n1, b1⟩, n2, b2⟩ := cross_by hf f4
  rw [f3] at hs0 ⊢
  rw [if_pos (by omega), Int.toNat_natCast] at hs0
  have d1 : bDom M.q M.m (Value.agg #[.int .i64 (r0 : Int), .bool false]) = true := by show bDom M.q M.m (kv r0 false) = true; rw [bDom_kv, b1]; rfl
  have d2 : bDom M.q M.m (Value.agg #[.int .i64 (r0 : Int), .bool true]) = true := by show bDom M.q M.m (kv r0 true) = true; rw [bDom_kv, b2]; rfl
  have g1 : bGet M.q M.m (Value.agg #[.int .i64 (r0 : Int), .bool false]) = .val (.int .i64 (n1 : Nat)) := by show bGet M.q M.m (kv r0 false) = _; rw [bGet_kv, b1]; rfl
  have g2 : bGet M.q M.m (Value.agg #[.int .i64 (r0 : Int), .bool true]) = .val (.int .i64 (n2 : Nat)) := by show bGet M.q M.m (kv r0 true) = _; rw [bGet_kv, b2]; rfl
  (repeat' (first | with_reducible refine splitVC_d (fun _ => ?_) (fun _ => ?_) | with_reducible refine splitVC (fun _ => ?_) (fun _ => ?_) | ((with_reducible refine And.intro ?_ ?_); focus (first | exact True.intro | omega | (simp only [InK, ne_eq, and_true, true_and]; omega) | exact ⟨.inr trivial, Nat.le_refl _, one1 _, by omega⟩ | exact ⟨.inr trivial, Nat.le_refl _, one1 _, by omega, by kernel_rfl⟩ | trivial)) | (simp -dsimp only [↓RP, RQ, implies_true, forall_const, Nat.reduceMul, reduceIte, reduceCtorEq, Nat.reduceAdd, Nat.reduceEqDiff, Nat.reduceLT, Nat.reduceLeDiff, d1, d2, g1, g2, NB, NB1, ND, hr0, hdr, dk_0, dk_22, dk_len, Nat.add_zero, Nat.add_assoc, self_F1, self_F2, effK_ret, effK_normal, TYn, TYd, TYm, TYw, QF, fsv, B, I, by2, RZ, eq_self, TY, Try.results86])))
  all_goals first | (exfalso; omega) | skip
  rw [hs0]
  refine ⟨_, _, _, weakS (fr' := [(0, _)]) ⟨.inr rfl, trivial⟩ (SubHp.cons (SubHp.skip (hr.none (by omega)) (SubHp.skip hr0 (SubHp.skip hrd (SubHp.skip hrm (SubHp.refl _)))))), by omega, .inr ⟨_, _, ?_, ?_, fun i hi => ?_, rfl, rfl⟩⟩
  ·omega
  ·omega
  ·have hi : i < 2 := hi
   have : i = 0 ∨ i = 1 := by omega
   rcases this with rfl | rfl
   ·show SV.val (.int .i64 (n1 : Nat)) = I (byN M r0 false : Nat)
    unfold byN; rw [b1]; rfl
   ·show SV.val (.int .i64 (n2 : Nat)) = I (byN M r0 true : Nat)
    unfold byN; rw [b2]; rfl
 ·rw [if_neg hF0] at hs0
  have hF1 : decide (0 ≤ fstI (crossV M) 0 (r + 1)) = false := decide_eq_false hF0
  have hl10 : List.take 10 (List.drop 2 (dkL M.run M.m M.q (dlo M M.m) (dhi M M.m) mid)) = lims (dlo M M.m) := rfl
  have hh10 : List.take 10 (List.drop 12 (dkL M.run M.m M.q (dlo M M.m) (dhi M M.m) mid)) = lims (dhi M M.m) := rfl
  (repeat' (first | with_reducible refine splitVC_d (fun _ => ?_) (fun _ => ?_) | with_reducible refine splitVC (fun _ => ?_) (fun _ => ?_) | ((with_reducible refine And.intro ?_ ?_); focus (first | exact True.intro | omega | (simp only [InK, ne_eq, and_true, true_and]; omega) | exact ⟨.inr trivial, Nat.le_refl _, one1 _, by omega⟩ | exact ⟨.inr trivial, Nat.le_refl _, one1 _, by omega, by kernel_rfl⟩ | trivial)) | (simp -dsimp only [↓RP, RQ, implies_true, forall_const, Nat.reduceMul, reduceIte, reduceCtorEq, Nat.reduceAdd, Nat.reduceEqDiff, Nat.reduceLT, Nat.reduceLeDiff, hF1, hl10, NB, NB1, ND, hr0, hdr, dk_0, dk_22, dk_len, Nat.add_zero, Nat.add_assoc, self_F1, self_F2, effK_ret, effK_normal, TYn, TYd, TYm, TYw, QF, fsv, B, I, by2, RZ, eq_self, TY, Try.results86])))
  all_goals first | (exfalso; omega) | skip
  have hsub98 : ∀ j, j < 1 → (dkL M.run M.m M.q (dlo M M.m) (dhi M M.m) mid).getD j SV.top = SV.val (.int .i64 M.run) ∧ j < (dkL M.run M.m M.q (dlo M M.m) (dhi M M.m) mid).length := fun j hj => by
   obtain rfl : j = 0 := by omega
   exact ⟨rfl, by rw [dk_len]; decide⟩
  have chL : ∀ j, j < r + 1 → Ch ((dlo M M.m) j) := fun j hj => by unfold dlo; rw [if_pos (by omega)]; exact loS_ch hf.od
  have chH : ∀ j, j < r + 1 → Ch ((dhi M M.m) j) := fun j hj => by unfold dhi; rw [if_pos (by omega)]; exact hiS_ch hf.od
  have ⟨⟨l1, l2⟩, l3, l4⟩ := one_in (n := r + 1) (by omega) chL
  have ⟨⟨h1, h2⟩, h3, h4⟩ := one_in (n := r + 1) (by omega) chH
  refine callVC (c98 M.run (r + 1) hn (by omega) (by omega) (dlo M M.m) chL) (by (simp -dsimp only [↓RP, RQ, implies_true, forall_const, Nat.reduceMul, reduceIte, reduceCtorEq, Nat.reduceAdd, Nat.reduceEqDiff, Nat.reduceLT, Nat.reduceLeDiff, lims, I, NB, NB1, ND, hl10]); exact hsub98) (by (simp -dsimp only [↓RP, RQ, implies_true, forall_const, Nat.reduceMul, reduceIte, reduceCtorEq, Nat.reduceAdd, Nat.reduceEqDiff, Nat.reduceLT, Nat.reduceLeDiff, fsv, I])) ?_
  (repeat' (first | with_reducible refine splitVC_d (fun _ => ?_) (fun _ => ?_) | with_reducible refine splitVC (fun _ => ?_) (fun _ => ?_) | ((with_reducible refine And.intro ?_ ?_); focus (first | exact True.intro | omega | (simp only [InK, ne_eq, and_true, true_and]; omega) | exact ⟨.inr trivial, Nat.le_refl _, one1 _, by omega⟩ | exact ⟨.inr trivial, Nat.le_refl _, one1 _, by omega, by kernel_rfl⟩ | trivial)) | (simp -dsimp only [↓RP, RQ, implies_true, forall_const, Nat.reduceMul, reduceIte, reduceCtorEq, Nat.reduceAdd, Nat.reduceEqDiff, Nat.reduceLT, Nat.reduceLeDiff, hF1, hl10, hh10, NB, NB1, ND, hr0, hdr, dk_0, dk_22, dk_len, Nat.add_zero, Nat.add_assoc, self_F1, self_F2, effK_ret, effK_normal, TYn, TYd, TYm, TYw, QF, fsv, B, I, by2, RZ, eq_self, TY, Try.results86])))
  refine callVC (c66 ⟨1, 1⟩ (sumF (dlo M M.m) (r + 1)) (by simp only [InK]; omega) (by simp only [InK]; omega)) (by (simp -dsimp only [↓RP, RQ, implies_true, forall_const, Nat.reduceMul, reduceIte, reduceCtorEq, Nat.reduceAdd, Nat.reduceEqDiff, Nat.reduceLT, Nat.reduceLeDiff, fsv, Go.Od.ints, I, B]); all_goals (try simp)) (by (simp -dsimp only [↓RP, RQ, implies_true, forall_const, Nat.reduceMul, reduceIte, reduceCtorEq, Nat.reduceAdd, Nat.reduceEqDiff, Nat.reduceLT, Nat.reduceLeDiff, B])) ?_
  by_cases hL : lt ⟨1, 1⟩ (sumF (dlo M M.m) (r + 1))
  ·rw [if_pos hL] at hs0
   have hL1 : decide (lt ⟨1, 1⟩ (sumF (dlo M M.m) (r + 1))) = true := decide_eq_true hL
   rw [hL1]
   (repeat' (first | with_reducible refine splitVC_d (fun _ => ?_) (fun _ => ?_) | with_reducible refine splitVC (fun _ => ?_) (fun _ => ?_) | ((with_reducible refine And.intro ?_ ?_); focus (first | exact True.intro | omega | (simp only [InK, ne_eq, and_true, true_and]; omega) | exact ⟨.inr trivial, Nat.le_refl _, one1 _, by omega⟩ | exact ⟨.inr trivial, Nat.le_refl _, one1 _, by omega, by kernel_rfl⟩ | trivial)) | (simp -dsimp only [↓RP, RQ, implies_true, forall_const, Nat.reduceMul, reduceIte, reduceCtorEq, Nat.reduceAdd, Nat.reduceEqDiff, Nat.reduceLT, Nat.reduceLeDiff, hF1, hl10, hh10, NB, NB1, ND, hr0, hdr, dk_0, dk_22, dk_len, Nat.add_zero, Nat.add_assoc, self_F1, self_F2, effK_ret, effK_normal, TYn, TYd, TYm, TYw, QF, fsv, B, I, by2, RZ, eq_self, TY, Try.results86])))
   all_goals first | (exfalso; omega) | skip
   refine mrangeI (mid := mid) (fit := kfS) (dom := bDom M.q M.m) (get := bGet M.q M.m) (by rfl) (by rfl) mi116 (by simp [blk, NB, NB1, ND]) fun stamp clk hst hinj => ?_
   (repeat' (first | with_reducible refine splitVC_d (fun _ => ?_) (fun _ => ?_) | with_reducible refine splitVC (fun _ => ?_) (fun _ => ?_) | ((with_reducible refine And.intro ?_ ?_); focus (first | exact True.intro | omega | (simp only [InK, ne_eq, and_true, true_and]; omega) | exact ⟨.inr trivial, Nat.le_refl _, one1 _, by omega⟩ | exact ⟨.inr trivial, Nat.le_refl _, one1 _, by omega, by kernel_rfl⟩ | trivial)) | (simp -dsimp only [↓RP, RQ, implies_true, forall_const, Nat.reduceMul, reduceIte, reduceCtorEq, Nat.reduceAdd, Nat.reduceEqDiff, Nat.reduceLT, Nat.reduceLeDiff, NB, NB1, ND, hr0, hdr, dk_0, dk_22, dk_len, Nat.add_zero, Nat.add_assoc, self_F1, self_F2, effK_ret, effK_normal, TYn, TYd, TYm, TYw, QF, fsv, B, I, by2, RZ, eq_self, TY, Try.results86])))
   refine loop_vc (fun (z : List Nat × (Value → Bool) × Nat) => z.1.Nodup ∧ (∀ s, s ∈ z.1 → s < clk) ∧ (∀ v, z.2.1 v = true → bDom M.q M.m v = true) ∧ (∀ r' : Nat, z.2.1 (kv r' true) = bDom M.q M.m (kv r' true)) ∧ nid + 40 ≤ z.2.2) (fun z => ⟨[(1, .ptr id 0), (4, .vec rid (r + 1) 1), (9, .val (.bool true)), (77, .ptr (nid + 39) 0)], (nid + 39, .iter mid clk z.1 clk) :: (rid, .rows 3 1 (r + 1) row) :: (id, .cells 96 [.ptr did 0]) :: (did, dkB M (dlo M M.m) (dhi M M.m) mid) :: (mid, .mapS kfS z.2.1 (bGet M.q M.m) stamp clk) :: rest, z.2.2⟩) (fun z => clk - z.1.length) ([], bDom M.q M.m, nid + 45) ⟨List.nodup_nil, fun s hs => (by cases hs), fun _ h => h, fun _ => rfl, by simp only []; omega⟩ (weakS ?_ ?_) fun z hz => ?_
   ·simp [SubFr, Go.Sx.look]
   ·exact SubHp.cons (SubHp.skip (hbx2 _ (by omega) (by omega)) (SubHp.refl _))
   obtain ⟨seen, dom, nn⟩ := z
   obtain ⟨y1, y2, y3, y4, y5⟩ := hz
   simp only [] at y1 y2 y3 y4 y5
   clear NB
   have NB := (⟨nmA (show id < nn by omega), nmA (show did < nn by omega), nmA (show mid < nn by omega), nmA (show rid < nn by omega), nmA (show nid + 39 < nn by omega), nmA (show id < nid by omega), nmA (show did < nid by omega), nmA (show mid < nid by omega)⟩ : _ ∧ _ ∧ _ ∧ _ ∧ _ ∧ _ ∧ _ ∧ _)
   have hbx3 : ∀ {X Y : Blk} x, nn ≤ x → blk ((nid + 39, Y) :: (rid, .rows 3 1 (r + 1) row) :: (id, .cells 96 [.ptr did 0]) :: (did, dkB M (dlo M M.m) (dhi M M.m) mid) :: (mid, X) :: rest) x = none := fun x hx => by
    simp only [blk]
    rw [if_neg (by omega), if_neg (by omega), if_neg (by omega), if_neg (by omega), if_neg (by omega)]
    exact hr.none (by omega)
   (repeat' (first | with_reducible refine splitVC_d (fun _ => ?_) (fun _ => ?_) | with_reducible refine splitVC (fun _ => ?_) (fun _ => ?_) | ((with_reducible refine And.intro ?_ ?_); focus (first | exact True.intro | omega | (simp only [InK, ne_eq, and_true, true_and]; omega) | exact ⟨.inr trivial, Nat.le_refl _, one1 _, by omega⟩ | exact ⟨.inr trivial, Nat.le_refl _, one1 _, by omega, by kernel_rfl⟩ | trivial)) | (simp -dsimp only [↓RP, RQ, implies_true, forall_const, Nat.reduceMul, reduceIte, reduceCtorEq, Nat.reduceAdd, Nat.reduceEqDiff, Nat.reduceLT, Nat.reduceLeDiff, NB, NB1, ND, hr0, hdr, dk_0, dk_22, dk_len, Nat.add_zero, Nat.add_assoc, self_F1, self_F2, effK_ret, effK_normal, TYn, TYd, TYm, TYw, QF, fsv, B, I, by2, RZ, eq_self, TY, Try.results86])))
   refine mnextI (iid := nid + 39) (mid := mid) (clk := clk) (seen := seen) (fit := kfS) (dom := dom) (get := bGet M.q M.m) (stamp := stamp) (by rfl) (by rfl) (by simp [blk, NB, NB1, ND]) (by simp [blk, NB, NB1, ND]) (fun k hk1 hk2 hk3 => ?_) (fun hall => ?_)
   ·obtain ⟨r', l', rfl⟩ : ∃ r' l', k = kv r' l' := ⟨k1 k, k2 k, kf_spec hk1⟩
    (repeat' (first | with_reducible refine splitVC_d (fun _ => ?_) (fun _ => ?_) | with_reducible refine splitVC (fun _ => ?_) (fun _ => ?_) | ((with_reducible refine And.intro ?_ ?_); focus (first | exact True.intro | omega | (simp only [InK, ne_eq, and_true, true_and]; omega) | exact ⟨.inr trivial, Nat.le_refl _, one1 _, by omega⟩ | exact ⟨.inr trivial, Nat.le_refl _, one1 _, by omega, by kernel_rfl⟩ | trivial)) | (simp -dsimp only [↓RP, RQ, implies_true, forall_const, Nat.reduceMul, reduceIte, reduceCtorEq, Nat.reduceAdd, Nat.reduceEqDiff, Nat.reduceLT, Nat.reduceLeDiff, NB, NB1, ND, hr0, hdr, dk_0, dk_22, dk_len, Nat.add_zero, Nat.add_assoc, self_F1, self_F2, effK_ret, effK_normal, TYn, TYd, TYm, TYw, QF, fsv, B, I, by2, RZ, eq_self, TY, Try.results86])))
    refine mentryI (s := .agg [.val (.int .i64 r'), .val (.bool l')]) (iid := nid + 39) (mid := mid) (clk := clk) (seen := seen) (fit := kfS) (dom := dom) (get := bGet M.q M.m) (stamp := stamp) (k := kv r' l') (by rfl) (by rfl) (by simp [blk, NB, NB1, ND]) (by simp [blk, NB, NB1, ND]) hk2 (isVal_agg [.int .i64 r', .bool l']) ?_
    have hsn := nodup_snoc y1 hk3
    have hst' : ∀ s, s ∈ seen ++ [stamp (kv r' l')] → s < clk := fun s hs => by
     rcases List.mem_append.1 hs with h | h
     ·exact y2 s h
     ·rw [List.mem_singleton.1 h]; exact hst _ (y3 _ hk2)
    have hlen := nodup_len clk _ hsn hst'
    rw [List.length_append, List.length_singleton] at hlen
    (repeat' (first | with_reducible refine splitVC_d (fun _ => ?_) (fun _ => ?_) | with_reducible refine splitVC (fun _ => ?_) (fun _ => ?_) | ((with_reducible refine And.intro ?_ ?_); focus (first | exact True.intro | omega | (simp only [InK, ne_eq, and_true, true_and]; omega) | exact ⟨.inr trivial, Nat.le_refl _, one1 _, by omega⟩ | exact ⟨.inr trivial, Nat.le_refl _, one1 _, by omega, by kernel_rfl⟩ | trivial)) | (simp -dsimp only [↓RP, RQ, implies_true, forall_const, Nat.reduceMul, reduceIte, reduceCtorEq, Nat.reduceAdd, Nat.reduceEqDiff, Nat.reduceLT, Nat.reduceLeDiff, NB, NB1, ND, hr0, hdr, dk_0, dk_22, dk_len, Nat.add_zero, Nat.add_assoc, self_F1, self_F2, effK_ret, effK_normal, TYn, TYd, TYm, TYw, QF, fsv, B, I, by2, RZ, eq_self, TY, Try.results86])))
    all_goals first | (exfalso; omega) | skip
    ·refine ⟨(seen ++ [stamp (kv r' l')], dom, nn + 10), ⟨hsn, hst', y3, y4, by simp only []; omega⟩, by simp only [List.length_append, List.length_singleton]; omega, weakS ?_ ?_⟩
     ·simp [SubFr, Go.Sx.look]
     ·exact SubHp.skip (hbx3 _ (by omega)) (SubHp.refl _)
    ·rename_i hne
     refine ⟨(seen ++ [stamp (kv r' l')], cutDom dom (kv r' l'), nn + 16), ⟨hsn, hst', fun v hv => y3 v (cut_le hv), fun r'' => by simp only []; rw [cut_other hne]; exact y4 r'', by simp only []; omega⟩, by simp only [List.length_append, List.length_singleton]; omega, weakS ?_ ?_⟩
     ·simp [SubFr, Go.Sx.look]
     ·exact SubHp.skip (hbx3 _ (by omega)) (SubHp.refl _)
   ·(repeat' (first | with_reducible refine splitVC_d (fun _ => ?_) (fun _ => ?_) | with_reducible refine splitVC (fun _ => ?_) (fun _ => ?_) | ((with_reducible refine And.intro ?_ ?_); focus (first | exact True.intro | omega | (simp only [InK, ne_eq, and_true, true_and]; omega) | exact ⟨.inr trivial, Nat.le_refl _, one1 _, by omega⟩ | exact ⟨.inr trivial, Nat.le_refl _, one1 _, by omega, by kernel_rfl⟩ | trivial)) | (simp -dsimp only [↓RP, RQ, implies_true, forall_const, Nat.reduceMul, reduceIte, reduceCtorEq, Nat.reduceAdd, Nat.reduceEqDiff, Nat.reduceLT, Nat.reduceLeDiff, NB, NB1, ND, hr0, hdr, dk_0, dk_22, dk_len, Nat.add_zero, Nat.add_assoc, self_F1, self_F2, effK_ret, effK_normal, TYn, TYd, TYm, TYw, QF, fsv, B, I, by2, RZ, eq_self, TY, Try.results86])))
    all_goals first | (exfalso; omega) | skip
    refine loop_vc (fun (z : Nat × Nat × Nat × (Nat → Nat → SV)) => z.1 ≤ r + 1 ∧ nn + 6 ≤ z.2.2.1 ∧ (pk M true z.1 ≠ [] → nn ≤ z.2.1 ∧ z.2.1 < z.2.2.1) ∧ ∀ i, i < (pk M true z.1).length → z.2.2.2 i 0 = .val (.int .i64 ((pk M true z.1).getD i 0 : Nat))) (st3 M true id did mid rid r row dom stamp clk rest) (fun z => r + 1 - z.1) (0, 0, nn + 6, fun _ _ => .top) ⟨Nat.zero_le _, Nat.le_refl _, fun h => absurd rfl h, fun i hi => (by cases hi)⟩ (by rw [st3_n _ _ _ _ _ _ _ _ _ _ _ _ _ _ _ _ rfl]; exact weakS (by simp [SubFr, Go.Sx.look]) (SubHp.skip (hbx2 _ (by omega) (by omega)) (SubHp.refl _))) fun z hz => ?_
    obtain ⟨i, oid, n3, row'⟩ := z
    obtain ⟨x1, x2, x3, x4⟩ := hz
    simp only [] at x1 x2 x3 x4
    clear NB
    have NB := (⟨nmA (show id < n3 by omega), nmA (show did < n3 by omega), nmA (show mid < n3 by omega), nmA (show rid < n3 by omega)⟩ : _ ∧ _ ∧ _ ∧ _)
    have hbx4 : ∀ {X : Blk} x, nn ≤ x → blk ((rid, .rows 3 1 (r + 1) row) :: (id, .cells 96 [.ptr did 0]) :: (did, dkB M (dlo M M.m) (dhi M M.m) mid) :: (mid, X) :: rest) x = none := fun x hx => by
     simp only [blk]
     rw [if_neg (by omega), if_neg (by omega), if_neg (by omega), if_neg (by omega)]
     exact hr.none (by omega)
    have hpl := pk_len M true i
    by_cases hli : i < r + 1
    ·have zi := z4 i hli
     have dI : dom (Value.agg #[.int .i64 (i : Nat), .bool true]) = (byS M.q (i : Nat) true M.m).isSome := by
      show dom (kv (i : Nat) true) = _
      rw [y4 i, bDom_kv]
     have gI : bGet M.q M.m (Value.agg #[.int .i64 (i : Nat), .bool true]) = oI (byS M.q (i : Nat) true M.m) := bGet_kv _ _ _ _
     cases hb : byS M.q (i : Nat) true M.m with
     | none =>
      have hpk := pk_none hb
      rw [hb] at dI gI
      simp only [Option.isSome_none] at dI
      cases hp : pk M true i with
      | nil =>
       rw [st3_n _ _ _ _ _ _ _ _ _ _ _ _ _ _ _ _ hp]
       (repeat' (first | with_reducible refine splitVC_d (fun _ => ?_) (fun _ => ?_) | with_reducible refine splitVC (fun _ => ?_) (fun _ => ?_) | ((with_reducible refine And.intro ?_ ?_); focus (first | exact True.intro | omega | (simp only [InK, ne_eq, and_true, true_and]; omega) | exact ⟨.inr trivial, Nat.le_refl _, one1 _, by omega⟩ | exact ⟨.inr trivial, Nat.le_refl _, one1 _, by omega, by kernel_rfl⟩ | trivial)) | (simp -dsimp only [↓RP, RQ, implies_true, forall_const, Nat.reduceMul, reduceIte, reduceCtorEq, Nat.reduceAdd, Nat.reduceEqDiff, Nat.reduceLT, Nat.reduceLeDiff, dI, gI, zi, NB, NB1, ND, hr0, hdr, dk_0, dk_22, dk_len, Nat.add_zero, Nat.add_assoc, self_F1, self_F2, effK_ret, effK_normal, TYn, TYd, TYm, TYw, QF, fsv, B, I, by2, RZ, eq_self, TY, Try.results86])))
       all_goals first | (exfalso; omega) | skip
       refine ⟨(i + 1, oid, n3 + 20, row'), ⟨by first | omega | (simp only []; omega), by first | omega | (simp only []; omega), by rw [hpk]; exact fun h => absurd hp h, by rw [hpk]; exact x4⟩, by first | omega | (simp only []; omega), ?_⟩
       rw [st3_n _ _ _ _ _ _ _ _ _ _ _ _ _ _ _ _ (hpk.trans hp)]
       exact weakS (by simp [SubFr, Go.Sx.look]) (SubHp.refl _)
      | cons x l =>
       have ⟨x5, x6⟩ := x3 (by rw [hp]; simp)
       rw [st3_c _ _ _ _ _ _ _ _ _ _ _ _ _ _ _ _ hp]
       have NB2 := (⟨nmE (show oid ≠ id by omega), nmE (show oid ≠ did by omega), nmE (show oid ≠ mid by omega), nmE (show oid ≠ rid by omega), nmA x6⟩ : _ ∧ _ ∧ _ ∧ _ ∧ _)
       (repeat' (first | with_reducible refine splitVC_d (fun _ => ?_) (fun _ => ?_) | with_reducible refine splitVC (fun _ => ?_) (fun _ => ?_) | ((with_reducible refine And.intro ?_ ?_); focus (first | exact True.intro | omega | (simp only [InK, ne_eq, and_true, true_and]; omega) | exact ⟨.inr trivial, Nat.le_refl _, one1 _, by omega⟩ | exact ⟨.inr trivial, Nat.le_refl _, one1 _, by omega, by kernel_rfl⟩ | trivial)) | (simp -dsimp only [↓RP, RQ, implies_true, forall_const, Nat.reduceMul, reduceIte, reduceCtorEq, Nat.reduceAdd, Nat.reduceEqDiff, Nat.reduceLT, Nat.reduceLeDiff, NB2, dI, gI, zi, NB, NB1, ND, hr0, hdr, dk_0, dk_22, dk_len, Nat.add_zero, Nat.add_assoc, self_F1, self_F2, effK_ret, effK_normal, TYn, TYd, TYm, TYw, QF, fsv, B, I, by2, RZ, eq_self, TY, Try.results86])))
       all_goals first | (exfalso; omega) | skip
       refine ⟨(i + 1, oid, n3 + 20, row'), ⟨by first | omega | (simp only []; omega), by first | omega | (simp only []; omega), fun _ => by first | exact ⟨by omega, by omega⟩ | (simp only []; omega), by rw [hpk]; exact x4⟩, by first | omega | (simp only []; omega), ?_⟩
       rw [st3_c _ _ _ _ _ _ _ _ _ _ _ _ _ _ _ _ (hpk.trans hp)]
       exact weakS (by simp [SubFr, Go.Sx.look]) (SubHp.refl _)
     | some n =>
      have hpk := pk_some hb
      rw [hb] at dI gI
      simp only [Option.isSome_some, oI, I] at dI gI
      cases hp : pk M true i with
      | nil =>
       rw [st3_n _ _ _ _ _ _ _ _ _ _ _ _ _ _ _ _ hp]
       (repeat' (first | with_reducible refine splitVC_d (fun _ => ?_) (fun _ => ?_) | with_reducible refine splitVC (fun _ => ?_) (fun _ => ?_) | ((with_reducible refine And.intro ?_ ?_); focus (first | exact True.intro | omega | (simp only [InK, ne_eq, and_true, true_and]; omega) | exact ⟨.inr trivial, Nat.le_refl _, one1 _, by omega⟩ | exact ⟨.inr trivial, Nat.le_refl _, one1 _, by omega, by kernel_rfl⟩ | trivial)) | (simp -dsimp only [↓RP, RQ, implies_true, forall_const, Nat.reduceMul, reduceIte, reduceCtorEq, Nat.reduceAdd, Nat.reduceEqDiff, Nat.reduceLT, Nat.reduceLeDiff, by3, dI, gI, zi, NB, NB1, ND, hr0, hdr, dk_0, dk_22, dk_len, Nat.add_zero, Nat.add_assoc, self_F1, self_F2, effK_ret, effK_normal, TYn, TYd, TYm, TYw, QF, fsv, B, I, by2, RZ, eq_self, TY, Try.results86])))
       all_goals first | (exfalso; omega) | skip
       have hpn : pk M true (i + 1) = n :: [] := by rw [hpk, hp]; rfl
       refine ⟨(i + 1, n3 + 26, n3 + 30, fun i j => [SV.val (.int .i64 (n : Nat))].getD (i + j) SV.top), ⟨by first | omega | (simp only []; omega), by first | omega | (simp only []; omega), fun _ => by first | exact ⟨by omega, by omega⟩ | (simp only []; omega), fun i' hi' => ?_⟩, by first | omega | (simp only []; omega), ?_⟩
       rotate_left
       ·rw [st3_c _ _ _ _ _ _ _ _ _ _ _ _ _ _ _ _ hpn]
        exact weakS (by simp [SubFr, Go.Sx.look]) (SubHp.cons (SubHp.skip (hbx4 _ (by omega)) (SubHp.refl _)))
       ·simp only [hpn] at hi' ⊢
        have hi' : i' < 1 := hi'
        obtain rfl : i' = 0 := by omega
        rfl
      | cons x l =>
       have ⟨x5, x6⟩ := x3 (by rw [hp]; simp)
       rw [hp] at hpl
       have hpl : l.length + 1 ≤ i := hpl
       rw [st3_c _ _ _ _ _ _ _ _ _ _ _ _ _ _ _ _ hp]
       have NB2 := (⟨nmE (show oid ≠ id by omega), nmE (show oid ≠ did by omega), nmE (show oid ≠ mid by omega), nmE (show oid ≠ rid by omega), nmA x6⟩ : _ ∧ _ ∧ _ ∧ _ ∧ _)
       (repeat' (first | with_reducible refine splitVC_d (fun _ => ?_) (fun _ => ?_) | with_reducible refine splitVC (fun _ => ?_) (fun _ => ?_) | ((with_reducible refine And.intro ?_ ?_); focus (first | exact True.intro | omega | (simp only [InK, ne_eq, and_true, true_and]; omega) | exact ⟨.inr trivial, Nat.le_refl _, one1 _, by omega⟩ | exact ⟨.inr trivial, Nat.le_refl _, one1 _, by omega, by kernel_rfl⟩ | trivial)) | (simp -dsimp only [↓RP, RQ, implies_true, forall_const, Nat.reduceMul, reduceIte, reduceCtorEq, Nat.reduceAdd, Nat.reduceEqDiff, Nat.reduceLT, Nat.reduceLeDiff, by3, NB2, dI, gI, zi, NB, NB1, ND, hr0, hdr, dk_0, dk_22, dk_len, Nat.add_zero, Nat.add_assoc, self_F1, self_F2, effK_ret, effK_normal, TYn, TYd, TYm, TYw, QF, fsv, B, I, by2, RZ, eq_self, TY, Try.results86])))
       all_goals first | (exfalso; omega) | skip
       refine ⟨⟨Nat.le_refl _, .inr trivial, by omega⟩, by simp only [InK]; omega, ?_⟩
       have hpn : pk M true (i + 1) = x :: (l ++ [n]) := by rw [hpk, hp]; rfl
       refine ⟨(i + 1, n3 + 26, n3 + 30, fun i j => if i < l.length + 1 then row' i j else [SV.val (.int .i64 (n : Nat))].getD (i - (l.length + 1) + j) SV.top), ⟨by first | omega | (simp only []; omega), by first | omega | (simp only []; omega), fun _ => by first | exact ⟨by omega, by omega⟩ | (simp only []; omega), fun i' hi' => ?_⟩, by first | omega | (simp only []; omega), ?_⟩
       rotate_left
       ·rw [st3_c _ _ _ _ _ _ _ _ _ _ _ _ _ _ _ _ hpn, List.length_append, List.length_singleton]
        exact weakS (by simp [SubFr, Go.Sx.look]) (SubHp.cons (SubHp.skip (hbx4 _ (by omega)) (SubHp.skip (hbx4 _ (by omega)) (SubHp.refl _))))
       ·simp only [hpk] at hi' ⊢
        rw [List.length_append, List.length_singleton] at hi'
        have hpl2 : (pk M true i).length = l.length + 1 := by rw [hp]; rfl
        by_cases hc : i' < l.length + 1
        ·rw [if_pos hc, x4 i' (by omega), getD_snoc_lt (by omega)]
        ·have e2 : i' = (pk M true i).length := by omega
         subst e2
         rw [if_neg hc, hpl2, Nat.sub_self, ← hpl2, getD_snoc_eq]; rfl
    ·have e : i = r + 1 := by omega
     subst e
     rw [hs0]
     cases hp : pk M true (r + 1) with
     | nil =>
      rw [st3_n _ _ _ _ _ _ _ _ _ _ _ _ _ _ _ _ hp]
      (repeat' (first | with_reducible refine splitVC_d (fun _ => ?_) (fun _ => ?_) | with_reducible refine splitVC (fun _ => ?_) (fun _ => ?_) | ((with_reducible refine And.intro ?_ ?_); focus (first | exact True.intro | omega | (simp only [InK, ne_eq, and_true, true_and]; omega) | exact ⟨.inr trivial, Nat.le_refl _, one1 _, by omega⟩ | exact ⟨.inr trivial, Nat.le_refl _, one1 _, by omega, by kernel_rfl⟩ | trivial)) | (simp -dsimp only [↓RP, RQ, implies_true, forall_const, Nat.reduceMul, reduceIte, reduceCtorEq, Nat.reduceAdd, Nat.reduceEqDiff, Nat.reduceLT, Nat.reduceLeDiff, NB, NB1, ND, hr0, hdr, dk_0, dk_22, dk_len, Nat.add_zero, Nat.add_assoc, self_F1, self_F2, effK_ret, effK_normal, TYn, TYd, TYm, TYw, QF, fsv, B, I, by2, RZ, eq_self, TY, Try.results86])))
      all_goals first | (exfalso; omega) | skip
      exact ⟨_, _, _, weakS (fr' := [(0, _)]) ⟨.inr rfl, trivial⟩ (SubHp.skip (hr.none (by omega)) (SubHp.skip hr0 (SubHp.skip hrd (SubHp.skip hrm (SubHp.refl _))))), by omega, .inl ⟨rfl, rfl⟩⟩
     | cons x l =>
      have ⟨x5, x6⟩ := x3 (by rw [hp]; simp)
      rw [st3_c _ _ _ _ _ _ _ _ _ _ _ _ _ _ _ _ hp]
      have NB2 := (⟨nmE (show oid ≠ id by omega), nmE (show oid ≠ did by omega), nmE (show oid ≠ mid by omega), nmE (show oid ≠ rid by omega), nmA x6⟩ : _ ∧ _ ∧ _ ∧ _ ∧ _)
      (repeat' (first | with_reducible refine splitVC_d (fun _ => ?_) (fun _ => ?_) | with_reducible refine splitVC (fun _ => ?_) (fun _ => ?_) | ((with_reducible refine And.intro ?_ ?_); focus (first | exact True.intro | omega | (simp only [InK, ne_eq, and_true, true_and]; omega) | exact ⟨.inr trivial, Nat.le_refl _, one1 _, by omega⟩ | exact ⟨.inr trivial, Nat.le_refl _, one1 _, by omega, by kernel_rfl⟩ | trivial)) | (simp -dsimp only [↓RP, RQ, implies_true, forall_const, Nat.reduceMul, reduceIte, reduceCtorEq, Nat.reduceAdd, Nat.reduceEqDiff, Nat.reduceLT, Nat.reduceLeDiff, NB2, NB, NB1, ND, hr0, hdr, dk_0, dk_22, dk_len, Nat.add_zero, Nat.add_assoc, self_F1, self_F2, effK_ret, effK_normal, TYn, TYd, TYm, TYw, QF, fsv, B, I, by2, RZ, eq_self, TY, Try.results86])))
      all_goals first | (exfalso; omega) | skip
      rw [hp] at x4
      exact ⟨_, _, _, weakS (fr' := [(0, _)]) ⟨.inr rfl, trivial⟩ (SubHp.cons (SubHp.skip (hr.none (by omega)) (SubHp.skip hr0 (SubHp.skip hrd (SubHp.skip hrm (SubHp.refl _)))))), by omega, .inr ⟨_, _, by omega, by omega, x4, rfl, rfl⟩⟩
  ·rw [if_neg hL] at hs0
   have hL1 : decide (lt ⟨1, 1⟩ (sumF (dlo M M.m) (r + 1))) = false := decide_eq_false hL
   rw [hL1]
   (repeat' (first | with_reducible refine splitVC_d (fun _ => ?_) (fun _ => ?_) | with_reducible refine splitVC (fun _ => ?_) (fun _ => ?_) | ((with_reducible refine And.intro ?_ ?_); focus (first | exact True.intro | omega | (simp only [InK, ne_eq, and_true, true_and]; omega) | exact ⟨.inr trivial, Nat.le_refl _, one1 _, by omega⟩ | exact ⟨.inr trivial, Nat.le_refl _, one1 _, by omega, by kernel_rfl⟩ | trivial)) | (simp -dsimp only [↓RP, RQ, implies_true, forall_const, Nat.reduceMul, reduceIte, reduceCtorEq, Nat.reduceAdd, Nat.reduceEqDiff, Nat.reduceLT, Nat.reduceLeDiff, hF1, hl10, hh10, NB, NB1, ND, hr0, hdr, dk_0, dk_22, dk_len, Nat.add_zero, Nat.add_assoc, self_F1, self_F2, effK_ret, effK_normal, TYn, TYd, TYm, TYw, QF, fsv, B, I, by2, RZ, eq_self, TY, Try.results86])))
   all_goals first | (exfalso; omega) | skip
   refine callVC (c98 M.run (r + 1) hn (by omega) (by omega) (dhi M M.m) chH) (by (simp -dsimp only [↓RP, RQ, implies_true, forall_const, Nat.reduceMul, reduceIte, reduceCtorEq, Nat.reduceAdd, Nat.reduceEqDiff, Nat.reduceLT, Nat.reduceLeDiff, lims, I, NB, NB1, ND, hh10]); exact hsub98) (by (simp -dsimp only [↓RP, RQ, implies_true, forall_const, Nat.reduceMul, reduceIte, reduceCtorEq, Nat.reduceAdd, Nat.reduceEqDiff, Nat.reduceLT, Nat.reduceLeDiff, fsv, I])) ?_
   (repeat' (first | with_reducible refine splitVC_d (fun _ => ?_) (fun _ => ?_) | with_reducible refine splitVC (fun _ => ?_) (fun _ => ?_) | ((with_reducible refine And.intro ?_ ?_); focus (first | exact True.intro | omega | (simp only [InK, ne_eq, and_true, true_and]; omega) | exact ⟨.inr trivial, Nat.le_refl _, one1 _, by omega⟩ | exact ⟨.inr trivial, Nat.le_refl _, one1 _, by omega, by kernel_rfl⟩ | trivial)) | (simp -dsimp only [↓RP, RQ, implies_true, forall_const, Nat.reduceMul, reduceIte, reduceCtorEq, Nat.reduceAdd, Nat.reduceEqDiff, Nat.reduceLT, Nat.reduceLeDiff, hF1, hl10, hh10, NB, NB1, ND, hr0, hdr, dk_0, dk_22, dk_len, Nat.add_zero, Nat.add_assoc, self_F1, self_F2, effK_ret, effK_normal, TYn, TYd, TYm, TYw, QF, fsv, B, I, by2, RZ, eq_self, TY, Try.results86])))
   refine callVC (c66 (sumF (dhi M M.m) (r + 1)) ⟨1, 1⟩ (by simp only [InK]; omega) (by simp only [InK]; omega)) (by (simp -dsimp only [↓RP, RQ, implies_true, forall_const, Nat.reduceMul, reduceIte, reduceCtorEq, Nat.reduceAdd, Nat.reduceEqDiff, Nat.reduceLT, Nat.reduceLeDiff, fsv, Go.Od.ints, I, B]); all_goals (try simp)) (by (simp -dsimp only [↓RP, RQ, implies_true, forall_const, Nat.reduceMul, reduceIte, reduceCtorEq, Nat.reduceAdd, Nat.reduceEqDiff, Nat.reduceLT, Nat.reduceLeDiff, B])) ?_
   by_cases hH : lt (sumF (dhi M M.m) (r + 1)) ⟨1, 1⟩
   ·rw [if_pos hH] at hs0
    have hH1 : decide (lt (sumF (dhi M M.m) (r + 1)) ⟨1, 1⟩) = true := decide_eq_true hH
    rw [hH1]
    (repeat' (first | with_reducible refine splitVC_d (fun _ => ?_) (fun _ => ?_) | with_reducible refine splitVC (fun _ => ?_) (fun _ => ?_) | ((with_reducible refine And.intro ?_ ?_); focus (first | exact True.intro | omega | (simp only [InK, ne_eq, and_true, true_and]; omega) | exact ⟨.inr trivial, Nat.le_refl _, one1 _, by omega⟩ | exact ⟨.inr trivial, Nat.le_refl _, one1 _, by omega, by kernel_rfl⟩ | trivial)) | (simp -dsimp only [↓RP, RQ, implies_true, forall_const, Nat.reduceMul, reduceIte, reduceCtorEq, Nat.reduceAdd, Nat.reduceEqDiff, Nat.reduceLT, Nat.reduceLeDiff, hF1, hl10, hh10, NB, NB1, ND, hr0, hdr, dk_0, dk_22, dk_len, Nat.add_zero, Nat.add_assoc, self_F1, self_F2, effK_ret, effK_normal, TYn, TYd, TYm, TYw, QF, fsv, B, I, by2, RZ, eq_self, TY, Try.results86])))
    all_goals first | (exfalso; omega) | skip
    refine mrangeI (mid := mid) (fit := kfS) (dom := bDom M.q M.m) (get := bGet M.q M.m) (by rfl) (by rfl) mi116 (by simp [blk, NB, NB1, ND]) fun stamp clk hst hinj => ?_
    (repeat' (first | with_reducible refine splitVC_d (fun _ => ?_) (fun _ => ?_) | with_reducible refine splitVC (fun _ => ?_) (fun _ => ?_) | ((with_reducible refine And.intro ?_ ?_); focus (first | exact True.intro | omega | (simp only [InK, ne_eq, and_true, true_and]; omega) | exact ⟨.inr trivial, Nat.le_refl _, one1 _, by omega⟩ | exact ⟨.inr trivial, Nat.le_refl _, one1 _, by omega, by kernel_rfl⟩ | trivial)) | (simp -dsimp only [↓RP, RQ, implies_true, forall_const, Nat.reduceMul, reduceIte, reduceCtorEq, Nat.reduceAdd, Nat.reduceEqDiff, Nat.reduceLT, Nat.reduceLeDiff, NB, NB1, ND, hr0, hdr, dk_0, dk_22, dk_len, Nat.add_zero, Nat.add_assoc, self_F1, self_F2, effK_ret, effK_normal, TYn, TYd, TYm, TYw, QF, fsv, B, I, by2, RZ, eq_self, TY, Try.results86])))
    refine loop_vc (fun (z : List Nat × (Value → Bool) × Nat) => z.1.Nodup ∧ (∀ s, s ∈ z.1 → s < clk) ∧ (∀ v, z.2.1 v = true → bDom M.q M.m v = true) ∧ (∀ r' : Nat, z.2.1 (kv r' false) = bDom M.q M.m (kv r' false)) ∧ nid + 40 ≤ z.2.2) (fun z => ⟨[(1, .ptr id 0), (4, .vec rid (r + 1) 1), (9, .val (.bool false)), (77, .ptr (nid + 39) 0)], (nid + 39, .iter mid clk z.1 clk) :: (rid, .rows 3 1 (r + 1) row) :: (id, .cells 96 [.ptr did 0]) :: (did, dkB M (dlo M M.m) (dhi M M.m) mid) :: (mid, .mapS kfS z.2.1 (bGet M.q M.m) stamp clk) :: rest, z.2.2⟩) (fun z => clk - z.1.length) ([], bDom M.q M.m, nid + 45) ⟨List.nodup_nil, fun s hs => (by cases hs), fun _ h => h, fun _ => rfl, by simp only []; omega⟩ (weakS ?_ ?_) fun z hz => ?_
    ·simp [SubFr, Go.Sx.look]
    ·exact SubHp.cons (SubHp.skip (hbx2 _ (by omega) (by omega)) (SubHp.refl _))
    obtain ⟨seen, dom, nn⟩ := z
    obtain ⟨y1, y2, y3, y4, y5⟩ := hz
    simp only [] at y1 y2 y3 y4 y5
    clear NB
    have NB := (⟨nmA (show id < nn by omega), nmA (show did < nn by omega), nmA (show mid < nn by omega), nmA (show rid < nn by omega), nmA (show nid + 39 < nn by omega), nmA (show id < nid by omega), nmA (show did < nid by omega), nmA (show mid < nid by omega)⟩ : _ ∧ _ ∧ _ ∧ _ ∧ _ ∧ _ ∧ _ ∧ _)
    have hbx3 : ∀ {X Y : Blk} x, nn ≤ x → blk ((nid + 39, Y) :: (rid, .rows 3 1 (r + 1) row) :: (id, .cells 96 [.ptr did 0]) :: (did, dkB M (dlo M M.m) (dhi M M.m) mid) :: (mid, X) :: rest) x = none := fun x hx => by
     simp only [blk]
     rw [if_neg (by omega), if_neg (by omega), if_neg (by omega), if_neg (by omega), if_neg (by omega)]
     exact hr.none (by omega)
    (repeat' (first | with_reducible refine splitVC_d (fun _ => ?_) (fun _ => ?_) | with_reducible refine splitVC (fun _ => ?_) (fun _ => ?_) | ((with_reducible refine And.intro ?_ ?_); focus (first | exact True.intro | omega | (simp only [InK, ne_eq, and_true, true_and]; omega) | exact ⟨.inr trivial, Nat.le_refl _, one1 _, by omega⟩ | exact ⟨.inr trivial, Nat.le_refl _, one1 _, by omega, by kernel_rfl⟩ | trivial)) | (simp -dsimp only [↓RP, RQ, implies_true, forall_const, Nat.reduceMul, reduceIte, reduceCtorEq, Nat.reduceAdd, Nat.reduceEqDiff, Nat.reduceLT, Nat.reduceLeDiff, NB, NB1, ND, hr0, hdr, dk_0, dk_22, dk_len, Nat.add_zero, Nat.add_assoc, self_F1, self_F2, effK_ret, effK_normal, TYn, TYd, TYm, TYw, QF, fsv, B, I, by2, RZ, eq_self, TY, Try.results86])))
    refine mnextI (iid := nid + 39) (mid := mid) (clk := clk) (seen := seen) (fit := kfS) (dom := dom) (get := bGet M.q M.m) (stamp := stamp) (by rfl) (by rfl) (by simp [blk, NB, NB1, ND]) (by simp [blk, NB, NB1, ND]) (fun k hk1 hk2 hk3 => ?_) (fun hall => ?_)
    ·obtain ⟨r', l', rfl⟩ : ∃ r' l', k = kv r' l' := ⟨k1 k, k2 k, kf_spec hk1⟩
     (repeat' (first | with_reducible refine splitVC_d (fun _ => ?_) (fun _ => ?_) | with_reducible refine splitVC (fun _ => ?_) (fun _ => ?_) | ((with_reducible refine And.intro ?_ ?_); focus (first | exact True.intro | omega | (simp only [InK, ne_eq, and_true, true_and]; omega) | exact ⟨.inr trivial, Nat.le_refl _, one1 _, by omega⟩ | exact ⟨.inr trivial, Nat.le_refl _, one1 _, by omega, by kernel_rfl⟩ | trivial)) | (simp -dsimp only [↓RP, RQ, implies_true, forall_const, Nat.reduceMul, reduceIte, reduceCtorEq, Nat.reduceAdd, Nat.reduceEqDiff, Nat.reduceLT, Nat.reduceLeDiff, NB, NB1, ND, hr0, hdr, dk_0, dk_22, dk_len, Nat.add_zero, Nat.add_assoc, self_F1, self_F2, effK_ret, effK_normal, TYn, TYd, TYm, TYw, QF, fsv, B, I, by2, RZ, eq_self, TY, Try.results86])))
     refine mentryI (s := .agg [.val (.int .i64 r'), .val (.bool l')]) (iid := nid + 39) (mid := mid) (clk := clk) (seen := seen) (fit := kfS) (dom := dom) (get := bGet M.q M.m) (stamp := stamp) (k := kv r' l') (by rfl) (by rfl) (by simp [blk, NB, NB1, ND]) (by simp [blk, NB, NB1, ND]) hk2 (isVal_agg [.int .i64 r', .bool l']) ?_
     have hsn := nodup_snoc y1 hk3
     have hst' : ∀ s, s ∈ seen ++ [stamp (kv r' l')] → s < clk := fun s hs => by
      rcases List.mem_append.1 hs with h | h
      ·exact y2 s h
      ·rw [List.mem_singleton.1 h]; exact hst _ (y3 _ hk2)
     have hlen := nodup_len clk _ hsn hst'
     rw [List.length_append, List.length_singleton] at hlen
     (repeat' (first | with_reducible refine splitVC_d (fun _ => ?_) (fun _ => ?_) | with_reducible refine splitVC (fun _ => ?_) (fun _ => ?_) | ((with_reducible refine And.intro ?_ ?_); focus (first | exact True.intro | omega | (simp only [InK, ne_eq, and_true, true_and]; omega) | exact ⟨.inr trivial, Nat.le_refl _, one1 _, by omega⟩ | exact ⟨.inr trivial, Nat.le_refl _, one1 _, by omega, by kernel_rfl⟩ | trivial)) | (simp -dsimp only [↓RP, RQ, implies_true, forall_const, Nat.reduceMul, reduceIte, reduceCtorEq, Nat.reduceAdd, Nat.reduceEqDiff, Nat.reduceLT, Nat.reduceLeDiff, NB, NB1, ND, hr0, hdr, dk_0, dk_22, dk_len, Nat.add_zero, Nat.add_assoc, self_F1, self_F2, effK_ret, effK_normal, TYn, TYd, TYm, TYw, QF, fsv, B, I, by2, RZ, eq_self, TY, Try.results86])))
     all_goals first | (exfalso; omega) | skip
     ·refine ⟨(seen ++ [stamp (kv r' l')], dom, nn + 10), ⟨hsn, hst', y3, y4, by simp only []; omega⟩, by simp only [List.length_append, List.length_singleton]; omega, weakS ?_ ?_⟩
      ·simp [SubFr, Go.Sx.look]
      ·exact SubHp.skip (hbx3 _ (by omega)) (SubHp.refl _)
     ·rename_i hne
      refine ⟨(seen ++ [stamp (kv r' l')], cutDom dom (kv r' l'), nn + 16), ⟨hsn, hst', fun v hv => y3 v (cut_le hv), fun r'' => by simp only []; rw [cut_other hne]; exact y4 r'', by simp only []; omega⟩, by simp only [List.length_append, List.length_singleton]; omega, weakS ?_ ?_⟩
      ·simp [SubFr, Go.Sx.look]
      ·exact SubHp.skip (hbx3 _ (by omega)) (SubHp.refl _)
    ·(repeat' (first | with_reducible refine splitVC_d (fun _ => ?_) (fun _ => ?_) | with_reducible refine splitVC (fun _ => ?_) (fun _ => ?_) | ((with_reducible refine And.intro ?_ ?_); focus (first | exact True.intro | omega | (simp only [InK, ne_eq, and_true, true_and]; omega) | exact ⟨.inr trivial, Nat.le_refl _, one1 _, by omega⟩ | exact ⟨.inr trivial, Nat.le_refl _, one1 _, by omega, by kernel_rfl⟩ | trivial)) | (simp -dsimp only [↓RP, RQ, implies_true, forall_const, Nat.reduceMul, reduceIte, reduceCtorEq, Nat.reduceAdd, Nat.reduceEqDiff, Nat.reduceLT, Nat.reduceLeDiff, NB, NB1, ND, hr0, hdr, dk_0, dk_22, dk_len, Nat.add_zero, Nat.add_assoc, self_F1, self_F2, effK_ret, effK_normal, TYn, TYd, TYm, TYw, QF, fsv, B, I, by2, RZ, eq_self, TY, Try.results86])))
     all_goals first | (exfalso; omega) | skip
     refine loop_vc (fun (z : Nat × Nat × Nat × (Nat → Nat → SV)) => z.1 ≤ r + 1 ∧ nn + 6 ≤ z.2.2.1 ∧ (pk M false z.1 ≠ [] → nn ≤ z.2.1 ∧ z.2.1 < z.2.2.1) ∧ ∀ i, i < (pk M false z.1).length → z.2.2.2 i 0 = .val (.int .i64 ((pk M false z.1).getD i 0 : Nat))) (st3 M false id did mid rid r row dom stamp clk rest) (fun z => r + 1 - z.1) (0, 0, nn + 6, fun _ _ => .top) ⟨Nat.zero_le _, Nat.le_refl _, fun h => absurd rfl h, fun i hi => (by cases hi)⟩ (by rw [st3_n _ _ _ _ _ _ _ _ _ _ _ _ _ _ _ _ rfl]; exact weakS (by simp [SubFr, Go.Sx.look]) (SubHp.skip (hbx2 _ (by omega) (by omega)) (SubHp.refl _))) fun z hz => ?_
     obtain ⟨i, oid, n3, row'⟩ := z
     obtain ⟨x1, x2, x3, x4⟩ := hz
     simp only [] at x1 x2 x3 x4
     clear NB
     have NB := (⟨nmA (show id < n3 by omega), nmA (show did < n3 by omega), nmA (show mid < n3 by omega), nmA (show rid < n3 by omega)⟩ : _ ∧ _ ∧ _ ∧ _)
     have hbx4 : ∀ {X : Blk} x, nn ≤ x → blk ((rid, .rows 3 1 (r + 1) row) :: (id, .cells 96 [.ptr did 0]) :: (did, dkB M (dlo M M.m) (dhi M M.m) mid) :: (mid, X) :: rest) x = none := fun x hx => by
      simp only [blk]
      rw [if_neg (by omega), if_neg (by omega), if_neg (by omega), if_neg (by omega)]
      exact hr.none (by omega)
     have hpl := pk_len M false i
     by_cases hli : i < r + 1
     ·have zi := z4 i hli
      have dI : dom (Value.agg #[.int .i64 (i : Nat), .bool false]) = (byS M.q (i : Nat) false M.m).isSome := by
       show dom (kv (i : Nat) false) = _
       rw [y4 i, bDom_kv]
      have gI : bGet M.q M.m (Value.agg #[.int .i64 (i : Nat), .bool false]) = oI (byS M.q (i : Nat) false M.m) := bGet_kv _ _ _ _
      cases hb : byS M.q (i : Nat) false M.m with
      | none =>
       have hpk := pk_none hb
       rw [hb] at dI gI
       simp only [Option.isSome_none] at dI
       cases hp : pk M false i with
       | nil =>
        rw [st3_n _ _ _ _ _ _ _ _ _ _ _ _ _ _ _ _ hp]
        (repeat' (first | with_reducible refine splitVC_d (fun _ => ?_) (fun _ => ?_) | with_reducible refine splitVC (fun _ => ?_) (fun _ => ?_) | ((with_reducible refine And.intro ?_ ?_); focus (first | exact True.intro | omega | (simp only [InK, ne_eq, and_true, true_and]; omega) | exact ⟨.inr trivial, Nat.le_refl _, one1 _, by omega⟩ | exact ⟨.inr trivial, Nat.le_refl _, one1 _, by omega, by kernel_rfl⟩ | trivial)) | (simp -dsimp only [↓RP, RQ, implies_true, forall_const, Nat.reduceMul, reduceIte, reduceCtorEq, Nat.reduceAdd, Nat.reduceEqDiff, Nat.reduceLT, Nat.reduceLeDiff, dI, gI, zi, NB, NB1, ND, hr0, hdr, dk_0, dk_22, dk_len, Nat.add_zero, Nat.add_assoc, self_F1, self_F2, effK_ret, effK_normal, TYn, TYd, TYm, TYw, QF, fsv, B, I, by2, RZ, eq_self, TY, Try.results86])))
        all_goals first | (exfalso; omega) | skip
        refine ⟨(i + 1, oid, n3 + 20, row'), ⟨by first | omega | (simp only []; omega), by first | omega | (simp only []; omega), by rw [hpk]; exact fun h => absurd hp h, by rw [hpk]; exact x4⟩, by first | omega | (simp only []; omega), ?_⟩
        rw [st3_n _ _ _ _ _ _ _ _ _ _ _ _ _ _ _ _ (hpk.trans hp)]
        exact weakS (by simp [SubFr, Go.Sx.look]) (SubHp.refl _)
       | cons x l =>
        have ⟨x5, x6⟩ := x3 (by rw [hp]; simp)
        rw [st3_c _ _ _ _ _ _ _ _ _ _ _ _ _ _ _ _ hp]
        have NB2 := (⟨nmE (show oid ≠ id by omega), nmE (show oid ≠ did by omega), nmE (show oid ≠ mid by omega), nmE (show oid ≠ rid by omega), nmA x6⟩ : _ ∧ _ ∧ _ ∧ _ ∧ _)
        (repeat' (first | with_reducible refine splitVC_d (fun _ => ?_) (fun _ => ?_) | with_reducible refine splitVC (fun _ => ?_) (fun _ => ?_) | ((with_reducible refine And.intro ?_ ?_); focus (first | exact True.intro | omega | (simp only [InK, ne_eq, and_true, true_and]; omega) | exact ⟨.inr trivial, Nat.le_refl _, one1 _, by omega⟩ | exact ⟨.inr trivial, Nat.le_refl _, one1 _, by omega, by kernel_rfl⟩ | trivial)) | (simp -dsimp only [↓RP, RQ, implies_true, forall_const, Nat.reduceMul, reduceIte, reduceCtorEq, Nat.reduceAdd, Nat.reduceEqDiff, Nat.reduceLT, Nat.reduceLeDiff, NB2, dI, gI, zi, NB, NB1, ND, hr0, hdr, dk_0, dk_22, dk_len, Nat.add_zero, Nat.add_assoc, self_F1, self_F2, effK_ret, effK_normal, TYn, TYd, TYm, TYw, QF, fsv, B, I, by2, RZ, eq_self, TY, Try.results86])))
        all_goals first | (exfalso; omega) | skip
        refine ⟨(i + 1, oid, n3 + 20, row'), ⟨by first | omega | (simp only []; omega), by first | omega | (simp only []; omega), fun _ => by first | exact ⟨by omega, by omega⟩ | (simp only []; omega), by rw [hpk]; exact x4⟩, by first | omega | (simp only []; omega), ?_⟩
        rw [st3_c _ _ _ _ _ _ _ _ _ _ _ _ _ _ _ _ (hpk.trans hp)]
        exact weakS (by simp [SubFr, Go.Sx.look]) (SubHp.refl _)
      | some n =>
       have hpk := pk_some hb
       rw [hb] at dI gI
       simp only [Option.isSome_some, oI, I] at dI gI
       cases hp : pk M false i with
       | nil =>
        rw [st3_n _ _ _ _ _ _ _ _ _ _ _ _ _ _ _ _ hp]
        (repeat' (first | with_reducible refine splitVC_d (fun _ => ?_) (fun _ => ?_) | with_reducible refine splitVC (fun _ => ?_) (fun _ => ?_) | ((with_reducible refine And.intro ?_ ?_); focus (first | exact True.intro | omega | (simp only [InK, ne_eq, and_true, true_and]; omega) | exact ⟨.inr trivial, Nat.le_refl _, one1 _, by omega⟩ | exact ⟨.inr trivial, Nat.le_refl _, one1 _, by omega, by kernel_rfl⟩ | trivial)) | (simp -dsimp only [↓RP, RQ, implies_true, forall_const, Nat.reduceMul, reduceIte, reduceCtorEq, Nat.reduceAdd, Nat.reduceEqDiff, Nat.reduceLT, Nat.reduceLeDiff, by3, dI, gI, zi, NB, NB1, ND, hr0, hdr, dk_0, dk_22, dk_len, Nat.add_zero, Nat.add_assoc, self_F1, self_F2, effK_ret, effK_normal, TYn, TYd, TYm, TYw, QF, fsv, B, I, by2, RZ, eq_self, TY, Try.results86])))
        all_goals first | (exfalso; omega) | skip
        have hpn : pk M false (i + 1) = n :: [] := by rw [hpk, hp]; rfl
        refine ⟨(i + 1, n3 + 26, n3 + 30, fun i j => [SV.val (.int .i64 (n : Nat))].getD (i + j) SV.top), ⟨by first | omega | (simp only []; omega), by first | omega | (simp only []; omega), fun _ => by first | exact ⟨by omega, by omega⟩ | (simp only []; omega), fun i' hi' => ?_⟩, by first | omega | (simp only []; omega), ?_⟩
        rotate_left
        ·rw [st3_c _ _ _ _ _ _ _ _ _ _ _ _ _ _ _ _ hpn]
         exact weakS (by simp [SubFr, Go.Sx.look]) (SubHp.cons (SubHp.skip (hbx4 _ (by omega)) (SubHp.refl _)))
        ·simp only [hpn] at hi' ⊢
         have hi' : i' < 1 := hi'
         obtain rfl : i' = 0 := by omega
         rfl
       | cons x l =>
        have ⟨x5, x6⟩ := x3 (by rw [hp]; simp)
        rw [hp] at hpl
        have hpl : l.length + 1 ≤ i := hpl
        rw [st3_c _ _ _ _ _ _ _ _ _ _ _ _ _ _ _ _ hp]
        have NB2 := (⟨nmE (show oid ≠ id by omega), nmE (show oid ≠ did by omega), nmE (show oid ≠ mid by omega), nmE (show oid ≠ rid by omega), nmA x6⟩ : _ ∧ _ ∧ _ ∧ _ ∧ _)
        (repeat' (first | with_reducible refine splitVC_d (fun _ => ?_) (fun _ => ?_) | with_reducible refine splitVC (fun _ => ?_) (fun _ => ?_) | ((with_reducible refine And.intro ?_ ?_); focus (first | exact True.intro | omega | (simp only [InK, ne_eq, and_true, true_and]; omega) | exact ⟨.inr trivial, Nat.le_refl _, one1 _, by omega⟩ | exact ⟨.inr trivial, Nat.le_refl _, one1 _, by omega, by kernel_rfl⟩ | trivial)) | (simp -dsimp only [↓RP, RQ, implies_true, forall_const, Nat.reduceMul, reduceIte, reduceCtorEq, Nat.reduceAdd, Nat.reduceEqDiff, Nat.reduceLT, Nat.reduceLeDiff, by3, NB2, dI, gI, zi, NB, NB1, ND, hr0, hdr, dk_0, dk_22, dk_len, Nat.add_zero, Nat.add_assoc, self_F1, self_F2, effK_ret, effK_normal, TYn, TYd, TYm, TYw, QF, fsv, B, I, by2, RZ, eq_self, TY, Try.results86])))
        all_goals first | (exfalso; omega) | skip
        refine ⟨⟨Nat.le_refl _, .inr trivial, by omega⟩, by simp only [InK]; omega, ?_⟩
        have hpn : pk M false (i + 1) = x :: (l ++ [n]) := by rw [hpk, hp]; rfl
        refine ⟨(i + 1, n3 + 26, n3 + 30, fun i j => if i < l.length + 1 then row' i j else [SV.val (.int .i64 (n : Nat))].getD (i - (l.length + 1) + j) SV.top), ⟨by first | omega | (simp only []; omega), by first | omega | (simp only []; omega), fun _ => by first | exact ⟨by omega, by omega⟩ | (simp only []; omega), fun i' hi' => ?_⟩, by first | omega | (simp only []; omega), ?_⟩
        rotate_left
        ·rw [st3_c _ _ _ _ _ _ _ _ _ _ _ _ _ _ _ _ hpn, List.length_append, List.length_singleton]
         exact weakS (by simp [SubFr, Go.Sx.look]) (SubHp.cons (SubHp.skip (hbx4 _ (by omega)) (SubHp.skip (hbx4 _ (by omega)) (SubHp.refl _))))
        ·simp only [hpk] at hi' ⊢
         rw [List.length_append, List.length_singleton] at hi'
         have hpl2 : (pk M false i).length = l.length + 1 := by rw [hp]; rfl
         by_cases hc : i' < l.length + 1
         ·rw [if_pos hc, x4 i' (by omega), getD_snoc_lt (by omega)]
         ·have e2 : i' = (pk M false i).length := by omega
          subst e2
          rw [if_neg hc, hpl2, Nat.sub_self, ← hpl2, getD_snoc_eq]; rfl
     ·have e : i = r + 1 := by omega
      subst e
      rw [hs0]
      cases hp : pk M false (r + 1) with
      | nil =>
       rw [st3_n _ _ _ _ _ _ _ _ _ _ _ _ _ _ _ _ hp]
       (repeat' (first | with_reducible refine splitVC_d (fun _ => ?_) (fun _ => ?_) | with_reducible refine splitVC (fun _ => ?_) (fun _ => ?_) | ((with_reducible refine And.intro ?_ ?_); focus (first | exact True.intro | omega | (simp only [InK, ne_eq, and_true, true_and]; omega) | exact ⟨.inr trivial, Nat.le_refl _, one1 _, by omega⟩ | exact ⟨.inr trivial, Nat.le_refl _, one1 _, by omega, by kernel_rfl⟩ | trivial)) | (simp -dsimp only [↓RP, RQ, implies_true, forall_const, Nat.reduceMul, reduceIte, reduceCtorEq, Nat.reduceAdd, Nat.reduceEqDiff, Nat.reduceLT, Nat.reduceLeDiff, NB, NB1, ND, hr0, hdr, dk_0, dk_22, dk_len, Nat.add_zero, Nat.add_assoc, self_F1, self_F2, effK_ret, effK_normal, TYn, TYd, TYm, TYw, QF, fsv, B, I, by2, RZ, eq_self, TY, Try.results86])))
       all_goals first | (exfalso; omega) | skip
       exact ⟨_, _, _, weakS (fr' := [(0, _)]) ⟨.inr rfl, trivial⟩ (SubHp.skip (hr.none (by omega)) (SubHp.skip hr0 (SubHp.skip hrd (SubHp.skip hrm (SubHp.refl _))))), by omega, .inl ⟨rfl, rfl⟩⟩
      | cons x l =>
       have ⟨x5, x6⟩ := x3 (by rw [hp]; simp)
       rw [st3_c _ _ _ _ _ _ _ _ _ _ _ _ _ _ _ _ hp]
       have NB2 := (⟨nmE (show oid ≠ id by omega), nmE (show oid ≠ did by omega), nmE (show oid ≠ mid by omega), nmE (show oid ≠ rid by omega), nmA x6⟩ : _ ∧ _ ∧ _ ∧ _ ∧ _)
       (repeat' (first | with_reducible refine splitVC_d (fun _ => ?_) (fun _ => ?_) | with_reducible refine splitVC (fun _ => ?_) (fun _ => ?_) | ((with_reducible refine And.intro ?_ ?_); focus (first | exact True.intro | omega | (simp only [InK, ne_eq, and_true, true_and]; omega) | exact ⟨.inr trivial, Nat.le_refl _, one1 _, by omega⟩ | exact ⟨.inr trivial, Nat.le_refl _, one1 _, by omega, by kernel_rfl⟩ | trivial)) | (simp -dsimp only [↓RP, RQ, implies_true, forall_const, Nat.reduceMul, reduceIte, reduceCtorEq, Nat.reduceAdd, Nat.reduceEqDiff, Nat.reduceLT, Nat.reduceLeDiff, NB2, NB, NB1, ND, hr0, hdr, dk_0, dk_22, dk_len, Nat.add_zero, Nat.add_assoc, self_F1, self_F2, effK_ret, effK_normal, TYn, TYd, TYm, TYw, QF, fsv, B, I, by2, RZ, eq_self, TY, Try.results86])))
       all_goals first | (exfalso; omega) | skip
       rw [hp] at x4
       exact ⟨_, _, _, weakS (fr' := [(0, _)]) ⟨.inr rfl, trivial⟩ (SubHp.cons (SubHp.skip (hr.none (by omega)) (SubHp.skip hr0 (SubHp.skip hrd (SubHp.skip hrm (SubHp.refl _)))))), by omega, .inr ⟨_, _, by omega, by omega, x4, rfl, rfl⟩⟩
   ·rw [if_neg hH] at hs0
    have hH1 : decide (lt (sumF (dhi M M.m) (r + 1)) ⟨1, 1⟩) = false := decide_eq_false hH
    rw [hH1]
    (repeat' (first | with_reducible refine splitVC_d (fun _ => ?_) (fun _ => ?_) | with_reducible refine splitVC (fun _ => ?_) (fun _ => ?_) | ((with_reducible refine And.intro ?_ ?_); focus (first | exact True.intro | omega | (simp only [InK, ne_eq, and_true, true_and]; omega) | exact ⟨.inr trivial, Nat.le_refl _, one1 _, by omega⟩ | exact ⟨.inr trivial, Nat.le_refl _, one1 _, by omega, by kernel_rfl⟩ | trivial)) | (simp -dsimp only [↓RP, RQ, implies_true, forall_const, Nat.reduceMul, reduceIte, reduceCtorEq, Nat.reduceAdd, Nat.reduceEqDiff, Nat.reduceLT, Nat.reduceLeDiff, hF1, hl10, hh10, NB, NB1, ND, hr0, hdr, dk_0, dk_22, dk_len, Nat.add_zero, Nat.add_assoc, self_F1, self_F2, effK_ret, effK_normal, TYn, TYd, TYm, TYw, QF, fsv, B, I, by2, RZ, eq_self, TY, Try.results86])))
    all_goals first | (exfalso; omega) | skip
    rw [hs0]
    have nn : ∀ x, id ≤ x → blk ((did, dkB M (dlo M M.m) (dhi M M.m) mid) :: rest) x = none := fun x hx => by
     simp only [blk]
     rw [if_neg (by omega)]; exact hr.none hx
    exact ⟨_, _, _, weakS (fr' := [(0, _)]) ⟨.inr rfl, trivial⟩ (SubHp.skip (nn _ (by omega)) (SubHp.skip (nn _ (by omega)) (SubHp.skip (nn _ (Nat.le_refl _)) (SubHp.cons (SubHp.skip hrm (SubHp.refl _)))))), by omega, rfl, rfl⟩
end Go.Od
end
