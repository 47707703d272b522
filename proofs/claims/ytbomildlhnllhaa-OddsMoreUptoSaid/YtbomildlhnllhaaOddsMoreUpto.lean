/- OddsMore, for arguments that hold together at most 1048576 values: the law returns true and leaves its arguments as they were. -/
import Derived.JoinedCond
import Derived.Test.YtbomildlhnllhaaRows
import Derived.Test.YtbomildlhnllhaaOZ
import Derived.Test.YtbomildlhnllhaaWOddsMoreUpto
section
namespace Go.Proofs.Ytbomildlhnllhaa.OddsMoreUpto
open Go.ChangeShapes Go.WideShapes Go.ChangeAt Go.RowKit Go.Sx Go.Od
set_option linter.unusedVariables false
set_option linter.unusedSimpArgs false
set_option maxRecDepth 100000
theorem own : ownKnob Try.prog.godebug = none := by kernel_rfl
theorem one_le {H : Type} (d : DataW H) : 1 ≤ Rows.uptoBulk d := by
  cases d with
  | lit l => cases l <;> simp [Rows.uptoBulk]
  | nil => simp [Rows.uptoBulk]
  | ptr d => simp [Rows.uptoBulk]
  | slice elems spare => simp [Rows.uptoBulk]
  | agg parts => simp [Rows.uptoBulk]
  | iface t d => simp [Rows.uptoBulk]
  | map entries => simp [Rows.uptoBulk]
  | held h => simp [Rows.uptoBulk]
theorem part_le {H : Type} {d : DataW H} {l : List (DataW H)} (h : d ∈ l) : Rows.uptoBulk d ≤ Rows.uptoBulkAll l := by
  induction l with
  | nil => cases h
  | cons x r ih =>
    simp only [Rows.uptoBulkAll]
    cases List.mem_cons.1 h with
    | inl e => subst e; omega
    | inr e => have := ih e; omega
theorem times_le {H : Type} {k : Nat} : ∀ {l : List (DataW H)}, (∀ d, d ∈ l → k ≤ Rows.uptoBulk d) → k * l.length ≤ Rows.uptoBulkAll l
  | [], _ => by simp [Rows.uptoBulkAll]
  | d :: l, h => by
    have h1 := h d (by simp)
    have h2 := times_le (l := l) fun x hx => h x (by simp [hx])
    simp only [Rows.uptoBulkAll, List.length_cons, Nat.mul_succ]
    omega
theorem rep_nil {w : World} {n : Nat} {q : Nat → Qt} (h : Rep noR noN (Gin w) w (qts n q) (.slice none 0 0)) : n = 0 := by
  unfold qts at h
  cases h; rfl
theorem rep_len {w : World} {n len cap : Nat} {a : Addr} {q : Nat → Qt} (h : Rep noR noN (Gin w) w (qts n q) (.slice (some a) len cap)) : n = len := by
  unfold qts at h
  cases h <;> rfl
theorem market_le {H : Type} {enc : TypeId × Value → H} {w : World} {r : Reach} {b0 : Nat} {v : Value} {d : DataW H} {ps : List MemPlace} {M : Mk} (hv : Value.okWide Try.prog w r b0 44 v) (h : DataW.Trod enc Try.prog w 0 (fun _ => true) true 44 v d ps) (hr : Rep noR noN (Gin w) w M.sv v) : 5 * M.m ≤ Rows.uptoBulk d := by
  obtain ⟨cs, rfl, _⟩ := okWide_struct Try.underlying44 hv
  obtain ⟨fuel, hf⟩ := h
  obtain ⟨y0, y1, n, e, hl, _, h1⟩ := trod_struct2 Try.underlying44 hf
  have hd : d = .agg [y0.1, y1.1] := congrArg Prod.fst e
  subst hd
  have hR : Rep noR noN (Gin w) w (qts M.m M.q) (cs.getD 1 undef) := by
    unfold Mk.sv at hr
    cases hr with
    | agg _ _ hl hc => exact hc 1 _ rfl
  have hc1 : ∀ u : Value, (cs.toList.drop 1).take 1 = [u] → cs.getD 1 undef = u := fun u hu => by
    have : cs.toList[1]? = some u := by
      have h2 : ((cs.toList.drop 1).take 1)[0]? = some u := by rw [hu]; rfl
      rw [List.getElem?_take, if_pos (by omega), List.getElem?_drop] at h2
      exact h2
    rw [Array.getD_eq_getD_getElem?, ← Array.getElem?_toList, this]; rfl
  have hb1 : Rows.uptoBulk y1.1 ≤ Rows.uptoBulk (DataW.agg [y0.1, y1.1]) := by
    have := part_le (H := H) (d := y1.1) (l := [y0.1, y1.1]) (by simp)
    simp only [Rows.uptoBulk] at this ⊢
    omega
  rcases Go.Deep.open_slice Try.underlying42 h1 with ⟨hc, hy⟩ | ⟨a, len, cap, m, n', D, Pl, hc, hb, hlc, hm, hmm, hy, hx⟩
  · rw [hc1 _ hc] at hR
    have := rep_nil hR
    omega
  · rw [hc1 _ hc] at hR
    have hlen : M.m = len := rep_len hR
    have e1 : y1.1 = .slice ((List.range len).map D) ((List.range (m - len)).map fun j => D (len + j)) := by rw [hy]
    have h5 : ∀ i, i < len → 5 ≤ Rows.uptoBulk (D i) := fun i hi => by
      have hmc : m = cap := by simpa using hmm
      obtain ⟨cs', _, h3⟩ := hx i (by omega)
      obtain ⟨xs, k, _, ex, _, hxl, _⟩ := DataW.trod_struct Try.underlying74 h3
      have ed : D i = .agg (xs.map (·.1)) := congrArg Prod.fst ex
      rw [ed]
      have := times_le (H := H) (k := 1) (l := xs.map (·.1)) fun d _ => one_le d
      rw [List.length_map, hxl] at this
      simp only [Rows.uptoBulk]
      simp at this
      omega
    have := times_le (H := H) (k := 5) (l := (List.range len).map D) fun d hd => by
      obtain ⟨i, hi, rfl⟩ := List.mem_map.1 hd
      exact h5 i (List.mem_range.1 hi)
    rw [List.length_map, List.length_range] at this
    have e2 : Rows.uptoBulkAll ((List.range len).map D) ≤ Rows.uptoBulk y1.1 := by
      rw [e1]; simp only [Rows.uptoBulk]; omega
    omega
theorem few {H : Type} {d : DataW H} {l : List (DataW H)} (hk : Rows.uptoSmall H (d :: l) = true) : Rows.uptoBulk d ≤ 1048576 := by
  have h : Rows.uptoBulkAll (d :: l) ≤ 1048576 := of_decide_eq_true hk
  simp only [Rows.uptoBulkAll] at h
  omega
set_option maxRecDepth 100000 in
theorem lifted (os : Os) (started : os.Started) (H : Type) (enc : TypeId × Value → H) (F : Stop.Interp) :
    ReturnsInHanded {} Try.checked os 13 .any ((Rows.OpenSpec.upto Rows.oddsMoreSpec).pre6 enc Try.prog Try.f13 Rows.oddsMoreUptoRow.domain false) (((Rows.OpenSpec.upto Rows.oddsMoreSpec).at F).post enc Try.prog Try.f13 false true false false) := by
  refine returnsInHanded_of_cond (C := Try.checked) (s := Rows.OpenSpec.upto Rows.oddsMoreSpec) (k := Rows.uptoSmall) rfl own started (by kernel_rfl) Try.func13
    (OpenSpec.witness (enc := enc) (C := Try.checked) (s := Rows.OpenSpec.upto Rows.oddsMoreSpec) (k := Rows.uptoSmall) rfl false ⟨#[], #[.agg #[.int .i64 0, .slice none 0 0], .agg #[.int .i64 0, .int .i64 0, .int .i64 0, .bool false]], []⟩ 8 (by kernel_rfl) (by kernel_rfl) (by kernel_rfl)
      (x := ([.agg [.lit (.int .i64 0), .nil], .agg [.lit (.int .i64 0), .lit (.int .i64 0), .lit (.int .i64 0), .lit (.bool false)]], [], [])) (by kernel_rfl) rfl (by kernel_rfl)) ?_
  intro W base args ds gs before hval0 hW _ hk _
  have hval : ∀ (j : Nat) t v, Try.f13.params[j]? = some t → args[j]? = some v → Value.okWide Try.prog W .any base t v := hval0
  have hW' := hW
  obtain ⟨p, q, hA0, hV, rfl, hfz, hnd⟩ := hW
  have hA : DataW.TrodAll enc Try.prog W 0 (fun _ => true) true Try.f13.params.toList args.toList ds p := hA0
  rw [Try.params13] at hA hval
  obtain ⟨v0, vs0, d0, ds0, p0, ps0, e0, rfl, rfl, h0, hA⟩ := trodAll_cons hA
  obtain ⟨v1, vs1, d1, ds1, p1, ps1, rfl, rfl, rfl, h1, hA⟩ := trodAll_cons hA
  obtain ⟨rfl, rfl, rfl⟩ := trodAll_nil hA
  obtain ⟨rfl, rfl⟩ := trodVars_none hV
  have e : args = #[v0, v1] := by cases args; simp_all
  subst e
  clear hA0 hval0
  obtain ⟨a0, r0⟩ := market_arg (hval 0 _ _ rfl rfl) h0
  obtain ⟨a1, r1⟩ := quote_arg (hval 1 _ _ rfl rfl) h1
  have hm := market_le (hval 0 _ _ rfl rfl) h0 r0
  have hm2 := few hk
  refine (law_calls (c13 a0 (by omega) a1) (.cons r0 (.cons r1 .nil))).mono fun e W' ⟨he, hb⟩ => ?_
  subst he
  exact ⟨_, rfl, law_post Go.Od.laid (by kernel_rfl) (by kernel_rfl) Try.underlying4 rfl rfl hW' hb⟩
theorem proved : Rows.OddsMoreUptoSaid :=
  OpenClaim.holds_of_cond 13 Try.f13 rfl rfl rfl rfl rfl rfl rfl ⟨rfl, rfl, rfl, rfl, rfl⟩ rfl rfl rfl rfl rfl (by kernel_rfl) Try.func13 (by kernel_rfl)
    (of_decide_eq_true (by kernel_rfl)) (by unfold Func.isWrapper; first | (rw [if_pos (by decide +kernel)]; kernel_rfl) | (rw [if_neg (by decide +kernel)]; exact ⟨rfl, rfl⟩))
    (fun os started H enc _ F => lifted os started H enc F)
#print axioms proved
end Go.Proofs.Ytbomildlhnllhaa.OddsMoreUpto
end
