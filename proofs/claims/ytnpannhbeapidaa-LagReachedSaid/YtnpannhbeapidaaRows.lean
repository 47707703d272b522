/-
  No cell of these rows narrows 'for every input' (looked for: loops, veiled, ifaces, maps, wideKeys, modest, calm, conditions, laid).
  DERIVED. THE GIVEN ROWS OF THIS SEAT. 14 by the template 'for every input the law returns true; each argument reads behind the call as it read before'; 0 by the template 'total and deterministic' (their statements: YtnpannhbeapidaaTotals.lean).
  GIVEN WITH THE SEED: the statements are not yours to turn. If you find one false, say at which input.
  Laid BY PROGRAM, IN A SANDBOX (cutbox-rows.mjs): the forced cells as the released guide's own fill.sh prints them over the translation 1401d00b8f8efd29… (all of the seat's roots in one cut). By AI agents, Wed Nov 11 2026. No macro, syntax, notation, axiom, sorry.
-/
import Derived.Test.YtnpannhbeapidaaChecked
import GoSem.Claim
import GoSem.ClaimJoined
import GoSem.ClaimMapViews
import Derived.JoinedTies
import Derived.KernelRfl
namespace Go.Proofs.Ytnpannhbeapidaa
/- THE CELL 'sum', in the pinned program and in every row, IS THE sha256 OF THE DUMP (.gsa) THAT YtnpannhbeapidaaProg.lean LOADS. Nothing in Lean hashes anything: it is a label: what it is worth is what the hold of that sum in a sandbox is worth. -/
noncomputable def Try.pinned : Pinned := { name := "ytnpannhbeapidaa", sum := "1401d00b8f8efd29ce0d7d9f1ec19aff25a26f0063ecf4d7e5c47d832eafea08", checked := Try.checked }
namespace Rows
def none {H : Type} : Left H := { results := [], args := [] }

/-- 'quinellalaw02.LagCurves': WHATEVER THE INPUT: true; the input reads as it did. -/
def lagCurvesSpec : ChangeSpec := { name := "lagCurves", fn := fun _ => fun
  | [d1, d2, d3, d4] => { results := [.lit (.bool true)], args := [d1, d2, d3, d4] }
  | _ => none }
def lagCurvesRow : OpenClaim := { program := "ytnpannhbeapidaa", sum := "1401d00b8f8efd29ce0d7d9f1ec19aff25a26f0063ecf4d7e5c47d832eafea08", func := "quinella/quinellalaw02.LagCurves", spec := "lagCurves", unfollowed := true, recurses := true, plainKeys := false, apart := false }
def LagCurvesSaid : Prop := lagCurvesRow.holds Try.pinned (OpenSpec.ofChange lagCurvesSpec)

/-- ITS FALSE NEIGHBOUR: 'it returns false'. Refute it at one input. -/
def lagCurvesWrong : ChangeSpec := { name := "lagCurves", fn := fun _ => fun
  | [d1, d2, d3, d4] => { results := [.lit (.bool false)], args := [d1, d2, d3, d4] }
  | _ => none }
def LagCurvesWrongFalsely : Prop := lagCurvesRow.holds Try.pinned (OpenSpec.ofChange lagCurvesWrong)

/-- 'quinellalaw02.LagRows': WHATEVER THE INPUT: true; the input reads as it did. -/
def lagRowsSpec : ChangeSpec := { name := "lagRows", fn := fun _ => fun
  | [d1, d2, d3] => { results := [.lit (.bool true)], args := [d1, d2, d3] }
  | _ => none }
def lagRowsRow : OpenClaim := { program := "ytnpannhbeapidaa", sum := "1401d00b8f8efd29ce0d7d9f1ec19aff25a26f0063ecf4d7e5c47d832eafea08", func := "quinella/quinellalaw02.LagRows", spec := "lagRows", unfollowed := true, recurses := true, plainKeys := false, apart := false }
def LagRowsSaid : Prop := lagRowsRow.holds Try.pinned (OpenSpec.ofChange lagRowsSpec)

/-- ITS FALSE NEIGHBOUR: 'it returns false'. Refute it at one input. -/
def lagRowsWrong : ChangeSpec := { name := "lagRows", fn := fun _ => fun
  | [d1, d2, d3] => { results := [.lit (.bool false)], args := [d1, d2, d3] }
  | _ => none }
def LagRowsWrongFalsely : Prop := lagRowsRow.holds Try.pinned (OpenSpec.ofChange lagRowsWrong)

/-- 'quinellalaw02.LagAdds': WHATEVER THE INPUT: true; the input reads as it did. -/
def lagAddsSpec : ChangeSpec := { name := "lagAdds", fn := fun _ => fun
  | [d1, d2, d3] => { results := [.lit (.bool true)], args := [d1, d2, d3] }
  | _ => none }
def lagAddsRow : OpenClaim := { program := "ytnpannhbeapidaa", sum := "1401d00b8f8efd29ce0d7d9f1ec19aff25a26f0063ecf4d7e5c47d832eafea08", func := "quinella/quinellalaw02.LagAdds", spec := "lagAdds", unfollowed := true, recurses := true, plainKeys := false, apart := false }
def LagAddsSaid : Prop := lagAddsRow.holds Try.pinned (OpenSpec.ofChange lagAddsSpec)

/-- ITS FALSE NEIGHBOUR: 'it returns false'. Refute it at one input. -/
def lagAddsWrong : ChangeSpec := { name := "lagAdds", fn := fun _ => fun
  | [d1, d2, d3] => { results := [.lit (.bool false)], args := [d1, d2, d3] }
  | _ => none }
def LagAddsWrongFalsely : Prop := lagAddsRow.holds Try.pinned (OpenSpec.ofChange lagAddsWrong)

/-- 'quinellalaw02.LagBounds': WHATEVER THE INPUT: true; the input reads as it did. -/
def lagBoundsSpec : ChangeSpec := { name := "lagBounds", fn := fun _ => fun
  | [d1, d2] => { results := [.lit (.bool true)], args := [d1, d2] }
  | _ => none }
def lagBoundsRow : OpenClaim := { program := "ytnpannhbeapidaa", sum := "1401d00b8f8efd29ce0d7d9f1ec19aff25a26f0063ecf4d7e5c47d832eafea08", func := "quinella/quinellalaw02.LagBounds", spec := "lagBounds", unfollowed := true, recurses := true, plainKeys := false, apart := false }
def LagBoundsSaid : Prop := lagBoundsRow.holds Try.pinned (OpenSpec.ofChange lagBoundsSpec)

/-- ITS FALSE NEIGHBOUR: 'it returns false'. Refute it at one input. -/
def lagBoundsWrong : ChangeSpec := { name := "lagBounds", fn := fun _ => fun
  | [d1, d2] => { results := [.lit (.bool false)], args := [d1, d2] }
  | _ => none }
def LagBoundsWrongFalsely : Prop := lagBoundsRow.holds Try.pinned (OpenSpec.ofChange lagBoundsWrong)

/-- 'quinellalaw02.LagBehinds': WHATEVER THE INPUT: true; the input reads as it did. -/
def lagBehindsSpec : ChangeSpec := { name := "lagBehinds", fn := fun _ => fun
  | [d1, d2] => { results := [.lit (.bool true)], args := [d1, d2] }
  | _ => none }
def lagBehindsRow : OpenClaim := { program := "ytnpannhbeapidaa", sum := "1401d00b8f8efd29ce0d7d9f1ec19aff25a26f0063ecf4d7e5c47d832eafea08", func := "quinella/quinellalaw02.LagBehinds", spec := "lagBehinds", unfollowed := true, recurses := true, plainKeys := false, apart := false }
def LagBehindsSaid : Prop := lagBehindsRow.holds Try.pinned (OpenSpec.ofChange lagBehindsSpec)

/-- ITS FALSE NEIGHBOUR: 'it returns false'. Refute it at one input. -/
def lagBehindsWrong : ChangeSpec := { name := "lagBehinds", fn := fun _ => fun
  | [d1, d2] => { results := [.lit (.bool false)], args := [d1, d2] }
  | _ => none }
def LagBehindsWrongFalsely : Prop := lagBehindsRow.holds Try.pinned (OpenSpec.ofChange lagBehindsWrong)

/-- 'quinellalaw02.LagReached': WHATEVER THE INPUT: true; the input reads as it did. -/
def lagReachedSpec : ChangeSpec := { name := "lagReached", fn := fun _ => fun
  | [d1, d2, d3, d4] => { results := [.lit (.bool true)], args := [d1, d2, d3, d4] }
  | _ => none }
def lagReachedRow : OpenClaim := { program := "ytnpannhbeapidaa", sum := "1401d00b8f8efd29ce0d7d9f1ec19aff25a26f0063ecf4d7e5c47d832eafea08", func := "quinella/quinellalaw02.LagReached", spec := "lagReached", unfollowed := true, recurses := true, plainKeys := false, apart := false }
def LagReachedSaid : Prop := lagReachedRow.holds Try.pinned (OpenSpec.ofChange lagReachedSpec)

/-- ITS FALSE NEIGHBOUR: 'it returns false'. Refute it at one input. -/
def lagReachedWrong : ChangeSpec := { name := "lagReached", fn := fun _ => fun
  | [d1, d2, d3, d4] => { results := [.lit (.bool false)], args := [d1, d2, d3, d4] }
  | _ => none }
def LagReachedWrongFalsely : Prop := lagReachedRow.holds Try.pinned (OpenSpec.ofChange lagReachedWrong)

/-- 'quinellalaw02.LagTight': WHATEVER THE INPUT: true; the input reads as it did. -/
def lagTightSpec : ChangeSpec := { name := "lagTight", fn := fun _ => fun
  | [d1, d2, d3, d4] => { results := [.lit (.bool true)], args := [d1, d2, d3, d4] }
  | _ => none }
def lagTightRow : OpenClaim := { program := "ytnpannhbeapidaa", sum := "1401d00b8f8efd29ce0d7d9f1ec19aff25a26f0063ecf4d7e5c47d832eafea08", func := "quinella/quinellalaw02.LagTight", spec := "lagTight", unfollowed := true, recurses := true, plainKeys := false, apart := false }
def LagTightSaid : Prop := lagTightRow.holds Try.pinned (OpenSpec.ofChange lagTightSpec)

/-- ITS FALSE NEIGHBOUR: 'it returns false'. Refute it at one input. -/
def lagTightWrong : ChangeSpec := { name := "lagTight", fn := fun _ => fun
  | [d1, d2, d3, d4] => { results := [.lit (.bool false)], args := [d1, d2, d3, d4] }
  | _ => none }
def LagTightWrongFalsely : Prop := lagTightRow.holds Try.pinned (OpenSpec.ofChange lagTightWrong)

/-- 'quinellalaw02.LagBroken': WHATEVER THE INPUT: true; the input reads as it did. -/
def lagBrokenSpec : ChangeSpec := { name := "lagBroken", fn := fun _ => fun
  | [d1, d2, d3] => { results := [.lit (.bool true)], args := [d1, d2, d3] }
  | _ => none }
def lagBrokenRow : OpenClaim := { program := "ytnpannhbeapidaa", sum := "1401d00b8f8efd29ce0d7d9f1ec19aff25a26f0063ecf4d7e5c47d832eafea08", func := "quinella/quinellalaw02.LagBroken", spec := "lagBroken", unfollowed := true, recurses := true, plainKeys := false, apart := false }
def LagBrokenSaid : Prop := lagBrokenRow.holds Try.pinned (OpenSpec.ofChange lagBrokenSpec)

/-- ITS FALSE NEIGHBOUR: 'it returns false'. Refute it at one input. -/
def lagBrokenWrong : ChangeSpec := { name := "lagBroken", fn := fun _ => fun
  | [d1, d2, d3] => { results := [.lit (.bool false)], args := [d1, d2, d3] }
  | _ => none }
def LagBrokenWrongFalsely : Prop := lagBrokenRow.holds Try.pinned (OpenSpec.ofChange lagBrokenWrong)

/-- 'quinellalaw02.LagLazy': WHATEVER THE INPUT: true; the input reads as it did. -/
def lagLazySpec : ChangeSpec := { name := "lagLazy", fn := fun _ => fun
  | [d1, d2, d3, d4] => { results := [.lit (.bool true)], args := [d1, d2, d3, d4] }
  | _ => none }
def lagLazyRow : OpenClaim := { program := "ytnpannhbeapidaa", sum := "1401d00b8f8efd29ce0d7d9f1ec19aff25a26f0063ecf4d7e5c47d832eafea08", func := "quinella/quinellalaw02.LagLazy", spec := "lagLazy", unfollowed := true, recurses := true, plainKeys := false, apart := false }
def LagLazySaid : Prop := lagLazyRow.holds Try.pinned (OpenSpec.ofChange lagLazySpec)

/-- ITS FALSE NEIGHBOUR: 'it returns false'. Refute it at one input. -/
def lagLazyWrong : ChangeSpec := { name := "lagLazy", fn := fun _ => fun
  | [d1, d2, d3, d4] => { results := [.lit (.bool false)], args := [d1, d2, d3, d4] }
  | _ => none }
def LagLazyWrongFalsely : Prop := lagLazyRow.holds Try.pinned (OpenSpec.ofChange lagLazyWrong)

/-- 'quinellalaw02.LagChained': WHATEVER THE INPUT: true; the input reads as it did. -/
def lagChainedSpec : ChangeSpec := { name := "lagChained", fn := fun _ => fun
  | [d1, d2, d3, d4] => { results := [.lit (.bool true)], args := [d1, d2, d3, d4] }
  | _ => none }
def lagChainedRow : OpenClaim := { program := "ytnpannhbeapidaa", sum := "1401d00b8f8efd29ce0d7d9f1ec19aff25a26f0063ecf4d7e5c47d832eafea08", func := "quinella/quinellalaw02.LagChained", spec := "lagChained", unfollowed := true, recurses := true, plainKeys := false, apart := false }
def LagChainedSaid : Prop := lagChainedRow.holds Try.pinned (OpenSpec.ofChange lagChainedSpec)

/-- ITS FALSE NEIGHBOUR: 'it returns false'. Refute it at one input. -/
def lagChainedWrong : ChangeSpec := { name := "lagChained", fn := fun _ => fun
  | [d1, d2, d3, d4] => { results := [.lit (.bool false)], args := [d1, d2, d3, d4] }
  | _ => none }
def LagChainedWrongFalsely : Prop := lagChainedRow.holds Try.pinned (OpenSpec.ofChange lagChainedWrong)

/-- 'quinellalaw02.LagBehind': WHATEVER THE INPUT: true; the input reads as it did. -/
def lagBehindSpec : ChangeSpec := { name := "lagBehind", fn := fun _ => fun
  | [d1, d2, d3, d4] => { results := [.lit (.bool true)], args := [d1, d2, d3, d4] }
  | _ => none }
def lagBehindRow : OpenClaim := { program := "ytnpannhbeapidaa", sum := "1401d00b8f8efd29ce0d7d9f1ec19aff25a26f0063ecf4d7e5c47d832eafea08", func := "quinella/quinellalaw02.LagBehind", spec := "lagBehind", unfollowed := true, recurses := true, plainKeys := false, apart := false }
def LagBehindSaid : Prop := lagBehindRow.holds Try.pinned (OpenSpec.ofChange lagBehindSpec)

/-- ITS FALSE NEIGHBOUR: 'it returns false'. Refute it at one input. -/
def lagBehindWrong : ChangeSpec := { name := "lagBehind", fn := fun _ => fun
  | [d1, d2, d3, d4] => { results := [.lit (.bool false)], args := [d1, d2, d3, d4] }
  | _ => none }
def LagBehindWrongFalsely : Prop := lagBehindRow.holds Try.pinned (OpenSpec.ofChange lagBehindWrong)

/-- 'quinellalaw02.LagMore': WHATEVER THE INPUT: true; the input reads as it did. -/
def lagMoreSpec : ChangeSpec := { name := "lagMore", fn := fun _ => fun
  | [d1, d2, d3, d4, d5] => { results := [.lit (.bool true)], args := [d1, d2, d3, d4, d5] }
  | _ => none }
def lagMoreRow : OpenClaim := { program := "ytnpannhbeapidaa", sum := "1401d00b8f8efd29ce0d7d9f1ec19aff25a26f0063ecf4d7e5c47d832eafea08", func := "quinella/quinellalaw02.LagMore", spec := "lagMore", unfollowed := true, recurses := true, plainKeys := false, apart := false }
def LagMoreSaid : Prop := lagMoreRow.holds Try.pinned (OpenSpec.ofChange lagMoreSpec)

/-- ITS FALSE NEIGHBOUR: 'it returns false'. Refute it at one input. -/
def lagMoreWrong : ChangeSpec := { name := "lagMore", fn := fun _ => fun
  | [d1, d2, d3, d4, d5] => { results := [.lit (.bool false)], args := [d1, d2, d3, d4, d5] }
  | _ => none }
def LagMoreWrongFalsely : Prop := lagMoreRow.holds Try.pinned (OpenSpec.ofChange lagMoreWrong)

/-- 'quinellalaw02.LagTimes': WHATEVER THE INPUT: true; the input reads as it did. -/
def lagTimesSpec : ChangeSpec := { name := "lagTimes", fn := fun _ => fun
  | [d1, d2, d3, d4] => { results := [.lit (.bool true)], args := [d1, d2, d3, d4] }
  | _ => none }
def lagTimesRow : OpenClaim := { program := "ytnpannhbeapidaa", sum := "1401d00b8f8efd29ce0d7d9f1ec19aff25a26f0063ecf4d7e5c47d832eafea08", func := "quinella/quinellalaw02.LagTimes", spec := "lagTimes", unfollowed := true, recurses := true, plainKeys := false, apart := false }
def LagTimesSaid : Prop := lagTimesRow.holds Try.pinned (OpenSpec.ofChange lagTimesSpec)

/-- ITS FALSE NEIGHBOUR: 'it returns false'. Refute it at one input. -/
def lagTimesWrong : ChangeSpec := { name := "lagTimes", fn := fun _ => fun
  | [d1, d2, d3, d4] => { results := [.lit (.bool false)], args := [d1, d2, d3, d4] }
  | _ => none }
def LagTimesWrongFalsely : Prop := lagTimesRow.holds Try.pinned (OpenSpec.ofChange lagTimesWrong)

/-- 'quinellalaw02.LagKnown': WHATEVER THE INPUT: true; the input reads as it did. -/
def lagKnownSpec : ChangeSpec := { name := "lagKnown", fn := fun _ => fun
  | [] => { results := [.lit (.bool true)], args := [] }
  | _ => none }
def lagKnownRow : OpenClaim := { program := "ytnpannhbeapidaa", sum := "1401d00b8f8efd29ce0d7d9f1ec19aff25a26f0063ecf4d7e5c47d832eafea08", func := "quinella/quinellalaw02.LagKnown", spec := "lagKnown", unfollowed := true, recurses := true, plainKeys := false, apart := false }
def LagKnownSaid : Prop := lagKnownRow.holds Try.pinned (OpenSpec.ofChange lagKnownSpec)

/-- ITS FALSE NEIGHBOUR: 'it returns false'. Refute it at one input. -/
def lagKnownWrong : ChangeSpec := { name := "lagKnown", fn := fun _ => fun
  | [] => { results := [.lit (.bool false)], args := [] }
  | _ => none }
def LagKnownWrongFalsely : Prop := lagKnownRow.holds Try.pinned (OpenSpec.ofChange lagKnownWrong)

/- THE SECOND FORM. 'bulk': how many values and letters a reading holds, each counted each time it is reached (what is shared counts as often as it is met; a slice's spare places count too). A statement '..UptoSaid' is the law's where the arguments, and the package variables that the reading takes, are together of bulk at most 1048576: NARROWER than '..Said'. Prove '..Said' where nothing that the law and all that it calls make is longer than what came in: it says more and counts as full. Else prove '..UptoSaid'. A law counts once. -/
mutual
def uptoBulk {H : Type} : DataW H → Nat
  | .lit (.string bytes) => bytes.length + 1
  | .lit _ => 1
  | .nil => 1
  | .ptr d => uptoBulk d + 1
  | .slice elems spare => uptoBulkAll elems + uptoBulkAll spare + 1
  | .agg parts => uptoBulkAll parts + 1
  | .iface _ d => uptoBulk d + 1
  | .map entries => uptoBulkEntries entries + 1
  | .held _ => 1
def uptoBulkAll {H : Type} : List (DataW H) → Nat
  | [] => 0
  | d :: r => uptoBulk d + uptoBulkAll r
def uptoBulkEntries {H : Type} : List (Lit × DataW H) → Nat
  | [] => 0
  | x :: r => uptoBulkEntry x + uptoBulkEntries r
def uptoBulkEntry {H : Type} : Lit × DataW H → Nat
  | (.string bytes, d) => bytes.length + uptoBulk d + 1
  | (_, d) => uptoBulk d + 1
 end
def uptoSmall : (H : Type) → List (DataW H) → Bool := fun _ ds => decide (uptoBulkAll ds ≤ 1048576)
def OpenSpec.upto (s : _root_.Go.ChangeSpec) : _root_.Go.OpenSpec := { _root_.Go.OpenSpec.ofChange s with cond := some uptoSmall }

/-- 'quinellalaw02.LagCurves', WHERE WHAT IT READS IS OF BULK AT MOST 1048576: true; the input reads as it did. -/
def lagCurvesUptoRow : OpenClaim := { program := "ytnpannhbeapidaa", sum := "1401d00b8f8efd29ce0d7d9f1ec19aff25a26f0063ecf4d7e5c47d832eafea08", func := "quinella/quinellalaw02.LagCurves", spec := "lagCurves", unfollowed := true, recurses := true, plainKeys := false, apart := false, narrowed := true }
def LagCurvesUptoSaid : Prop := lagCurvesUptoRow.holds Try.pinned (OpenSpec.upto lagCurvesSpec)

/-- 'quinellalaw02.LagRows', WHERE WHAT IT READS IS OF BULK AT MOST 1048576: true; the input reads as it did. -/
def lagRowsUptoRow : OpenClaim := { program := "ytnpannhbeapidaa", sum := "1401d00b8f8efd29ce0d7d9f1ec19aff25a26f0063ecf4d7e5c47d832eafea08", func := "quinella/quinellalaw02.LagRows", spec := "lagRows", unfollowed := true, recurses := true, plainKeys := false, apart := false, narrowed := true }
def LagRowsUptoSaid : Prop := lagRowsUptoRow.holds Try.pinned (OpenSpec.upto lagRowsSpec)

/-- 'quinellalaw02.LagAdds', WHERE WHAT IT READS IS OF BULK AT MOST 1048576: true; the input reads as it did. -/
def lagAddsUptoRow : OpenClaim := { program := "ytnpannhbeapidaa", sum := "1401d00b8f8efd29ce0d7d9f1ec19aff25a26f0063ecf4d7e5c47d832eafea08", func := "quinella/quinellalaw02.LagAdds", spec := "lagAdds", unfollowed := true, recurses := true, plainKeys := false, apart := false, narrowed := true }
def LagAddsUptoSaid : Prop := lagAddsUptoRow.holds Try.pinned (OpenSpec.upto lagAddsSpec)

/-- 'quinellalaw02.LagBounds', WHERE WHAT IT READS IS OF BULK AT MOST 1048576: true; the input reads as it did. -/
def lagBoundsUptoRow : OpenClaim := { program := "ytnpannhbeapidaa", sum := "1401d00b8f8efd29ce0d7d9f1ec19aff25a26f0063ecf4d7e5c47d832eafea08", func := "quinella/quinellalaw02.LagBounds", spec := "lagBounds", unfollowed := true, recurses := true, plainKeys := false, apart := false, narrowed := true }
def LagBoundsUptoSaid : Prop := lagBoundsUptoRow.holds Try.pinned (OpenSpec.upto lagBoundsSpec)

/-- 'quinellalaw02.LagBehinds', WHERE WHAT IT READS IS OF BULK AT MOST 1048576: true; the input reads as it did. -/
def lagBehindsUptoRow : OpenClaim := { program := "ytnpannhbeapidaa", sum := "1401d00b8f8efd29ce0d7d9f1ec19aff25a26f0063ecf4d7e5c47d832eafea08", func := "quinella/quinellalaw02.LagBehinds", spec := "lagBehinds", unfollowed := true, recurses := true, plainKeys := false, apart := false, narrowed := true }
def LagBehindsUptoSaid : Prop := lagBehindsUptoRow.holds Try.pinned (OpenSpec.upto lagBehindsSpec)

/-- 'quinellalaw02.LagReached', WHERE WHAT IT READS IS OF BULK AT MOST 1048576: true; the input reads as it did. -/
def lagReachedUptoRow : OpenClaim := { program := "ytnpannhbeapidaa", sum := "1401d00b8f8efd29ce0d7d9f1ec19aff25a26f0063ecf4d7e5c47d832eafea08", func := "quinella/quinellalaw02.LagReached", spec := "lagReached", unfollowed := true, recurses := true, plainKeys := false, apart := false, narrowed := true }
def LagReachedUptoSaid : Prop := lagReachedUptoRow.holds Try.pinned (OpenSpec.upto lagReachedSpec)

/-- 'quinellalaw02.LagTight', WHERE WHAT IT READS IS OF BULK AT MOST 1048576: true; the input reads as it did. -/
def lagTightUptoRow : OpenClaim := { program := "ytnpannhbeapidaa", sum := "1401d00b8f8efd29ce0d7d9f1ec19aff25a26f0063ecf4d7e5c47d832eafea08", func := "quinella/quinellalaw02.LagTight", spec := "lagTight", unfollowed := true, recurses := true, plainKeys := false, apart := false, narrowed := true }
def LagTightUptoSaid : Prop := lagTightUptoRow.holds Try.pinned (OpenSpec.upto lagTightSpec)

/-- 'quinellalaw02.LagBroken', WHERE WHAT IT READS IS OF BULK AT MOST 1048576: true; the input reads as it did. -/
def lagBrokenUptoRow : OpenClaim := { program := "ytnpannhbeapidaa", sum := "1401d00b8f8efd29ce0d7d9f1ec19aff25a26f0063ecf4d7e5c47d832eafea08", func := "quinella/quinellalaw02.LagBroken", spec := "lagBroken", unfollowed := true, recurses := true, plainKeys := false, apart := false, narrowed := true }
def LagBrokenUptoSaid : Prop := lagBrokenUptoRow.holds Try.pinned (OpenSpec.upto lagBrokenSpec)

/-- 'quinellalaw02.LagLazy', WHERE WHAT IT READS IS OF BULK AT MOST 1048576: true; the input reads as it did. -/
def lagLazyUptoRow : OpenClaim := { program := "ytnpannhbeapidaa", sum := "1401d00b8f8efd29ce0d7d9f1ec19aff25a26f0063ecf4d7e5c47d832eafea08", func := "quinella/quinellalaw02.LagLazy", spec := "lagLazy", unfollowed := true, recurses := true, plainKeys := false, apart := false, narrowed := true }
def LagLazyUptoSaid : Prop := lagLazyUptoRow.holds Try.pinned (OpenSpec.upto lagLazySpec)

/-- 'quinellalaw02.LagChained', WHERE WHAT IT READS IS OF BULK AT MOST 1048576: true; the input reads as it did. -/
def lagChainedUptoRow : OpenClaim := { program := "ytnpannhbeapidaa", sum := "1401d00b8f8efd29ce0d7d9f1ec19aff25a26f0063ecf4d7e5c47d832eafea08", func := "quinella/quinellalaw02.LagChained", spec := "lagChained", unfollowed := true, recurses := true, plainKeys := false, apart := false, narrowed := true }
def LagChainedUptoSaid : Prop := lagChainedUptoRow.holds Try.pinned (OpenSpec.upto lagChainedSpec)

/-- 'quinellalaw02.LagBehind', WHERE WHAT IT READS IS OF BULK AT MOST 1048576: true; the input reads as it did. -/
def lagBehindUptoRow : OpenClaim := { program := "ytnpannhbeapidaa", sum := "1401d00b8f8efd29ce0d7d9f1ec19aff25a26f0063ecf4d7e5c47d832eafea08", func := "quinella/quinellalaw02.LagBehind", spec := "lagBehind", unfollowed := true, recurses := true, plainKeys := false, apart := false, narrowed := true }
def LagBehindUptoSaid : Prop := lagBehindUptoRow.holds Try.pinned (OpenSpec.upto lagBehindSpec)

/-- 'quinellalaw02.LagMore', WHERE WHAT IT READS IS OF BULK AT MOST 1048576: true; the input reads as it did. -/
def lagMoreUptoRow : OpenClaim := { program := "ytnpannhbeapidaa", sum := "1401d00b8f8efd29ce0d7d9f1ec19aff25a26f0063ecf4d7e5c47d832eafea08", func := "quinella/quinellalaw02.LagMore", spec := "lagMore", unfollowed := true, recurses := true, plainKeys := false, apart := false, narrowed := true }
def LagMoreUptoSaid : Prop := lagMoreUptoRow.holds Try.pinned (OpenSpec.upto lagMoreSpec)

/-- 'quinellalaw02.LagTimes', WHERE WHAT IT READS IS OF BULK AT MOST 1048576: true; the input reads as it did. -/
def lagTimesUptoRow : OpenClaim := { program := "ytnpannhbeapidaa", sum := "1401d00b8f8efd29ce0d7d9f1ec19aff25a26f0063ecf4d7e5c47d832eafea08", func := "quinella/quinellalaw02.LagTimes", spec := "lagTimes", unfollowed := true, recurses := true, plainKeys := false, apart := false, narrowed := true }
def LagTimesUptoSaid : Prop := lagTimesUptoRow.holds Try.pinned (OpenSpec.upto lagTimesSpec)

/-- 'quinellalaw02.LagKnown', WHERE WHAT IT READS IS OF BULK AT MOST 1048576: true; the input reads as it did. -/
def lagKnownUptoRow : OpenClaim := { program := "ytnpannhbeapidaa", sum := "1401d00b8f8efd29ce0d7d9f1ec19aff25a26f0063ecf4d7e5c47d832eafea08", func := "quinella/quinellalaw02.LagKnown", spec := "lagKnown", unfollowed := true, recurses := true, plainKeys := false, apart := false, narrowed := true }
def LagKnownUptoSaid : Prop := lagKnownUptoRow.holds Try.pinned (OpenSpec.upto lagKnownSpec)

end Rows
end Go.Proofs.Ytnpannhbeapidaa
