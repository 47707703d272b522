/-
  No cell of these rows narrows 'for every input' (looked for: loops, veiled, ifaces, maps, wideKeys, modest, calm, conditions, laid).
  DERIVED. THE GIVEN ROWS OF THIS SEAT. 15 by the template 'for every input the law returns true; each argument reads behind the call as it read before'; 0 by the template 'total and deterministic' (their statements: YtnkplemacdipfaaTotals.lean).
  GIVEN WITH THE SEED: the statements are not yours to turn. If you find one false, say at which input.
  Laid BY PROGRAM, IN A SANDBOX (cutbox-rows.mjs): the forced cells as the released guide's own fill.sh prints them over the translation 8c00e454fa092e79… (all of the seat's roots in one cut). By AI agents, Wed Nov 11 2026. No macro, syntax, notation, axiom, sorry.
-/
import Derived.Test.YtnkplemacdipfaaChecked
import GoSem.Claim
import GoSem.ClaimJoined
import GoSem.ClaimMapViews
import Derived.JoinedTies
import Derived.KernelRfl
namespace Go.Proofs.Ytnkplemacdipfaa
/- THE CELL 'sum', in the pinned program and in every row, IS THE sha256 OF THE DUMP (.gsa) THAT YtnkplemacdipfaaProg.lean LOADS. Nothing in Lean hashes anything: it is a label: what it is worth is what the hold of that sum in a sandbox is worth. -/
noncomputable def Try.pinned : Pinned := { name := "ytnkplemacdipfaa", sum := "8c00e454fa092e79f0d5a4202b281e4b90c65f632f221e70efc2ee923c727ca5", checked := Try.checked }
namespace Rows
def none {H : Type} : Left H := { results := [], args := [] }

/-- 'quinellalaw11.PostPools': WHATEVER THE INPUT: true; the input reads as it did. -/
def postPoolsSpec : ChangeSpec := { name := "postPools", fn := fun _ => fun
  | [d1, d2, d3, d4] => { results := [.lit (.bool true)], args := [d1, d2, d3, d4] }
  | _ => none }
def postPoolsRow : OpenClaim := { program := "ytnkplemacdipfaa", sum := "8c00e454fa092e79f0d5a4202b281e4b90c65f632f221e70efc2ee923c727ca5", func := "quinella/quinellalaw11.PostPools", spec := "postPools", unfollowed := true, recurses := true, plainKeys := false, apart := false }
def PostPoolsSaid : Prop := postPoolsRow.holds Try.pinned (OpenSpec.ofChange postPoolsSpec)

/-- ITS FALSE NEIGHBOUR: 'it returns false'. Refute it at one input. -/
def postPoolsWrong : ChangeSpec := { name := "postPools", fn := fun _ => fun
  | [d1, d2, d3, d4] => { results := [.lit (.bool false)], args := [d1, d2, d3, d4] }
  | _ => none }
def PostPoolsWrongFalsely : Prop := postPoolsRow.holds Try.pinned (OpenSpec.ofChange postPoolsWrong)

/-- 'quinellalaw11.PostSpreads': WHATEVER THE INPUT: true; the input reads as it did. -/
def postSpreadsSpec : ChangeSpec := { name := "postSpreads", fn := fun _ => fun
  | [d1, d2, d3] => { results := [.lit (.bool true)], args := [d1, d2, d3] }
  | _ => none }
def postSpreadsRow : OpenClaim := { program := "ytnkplemacdipfaa", sum := "8c00e454fa092e79f0d5a4202b281e4b90c65f632f221e70efc2ee923c727ca5", func := "quinella/quinellalaw11.PostSpreads", spec := "postSpreads", unfollowed := true, recurses := true, plainKeys := false, apart := false }
def PostSpreadsSaid : Prop := postSpreadsRow.holds Try.pinned (OpenSpec.ofChange postSpreadsSpec)

/-- ITS FALSE NEIGHBOUR: 'it returns false'. Refute it at one input. -/
def postSpreadsWrong : ChangeSpec := { name := "postSpreads", fn := fun _ => fun
  | [d1, d2, d3] => { results := [.lit (.bool false)], args := [d1, d2, d3] }
  | _ => none }
def PostSpreadsWrongFalsely : Prop := postSpreadsRow.holds Try.pinned (OpenSpec.ofChange postSpreadsWrong)

/-- 'quinellalaw11.PostBoards': WHATEVER THE INPUT: true; the input reads as it did. -/
def postBoardsSpec : ChangeSpec := { name := "postBoards", fn := fun _ => fun
  | [d1, d2] => { results := [.lit (.bool true)], args := [d1, d2] }
  | _ => none }
def postBoardsRow : OpenClaim := { program := "ytnkplemacdipfaa", sum := "8c00e454fa092e79f0d5a4202b281e4b90c65f632f221e70efc2ee923c727ca5", func := "quinella/quinellalaw11.PostBoards", spec := "postBoards", unfollowed := true, recurses := true, plainKeys := false, apart := false }
def PostBoardsSaid : Prop := postBoardsRow.holds Try.pinned (OpenSpec.ofChange postBoardsSpec)

/-- ITS FALSE NEIGHBOUR: 'it returns false'. Refute it at one input. -/
def postBoardsWrong : ChangeSpec := { name := "postBoards", fn := fun _ => fun
  | [d1, d2] => { results := [.lit (.bool false)], args := [d1, d2] }
  | _ => none }
def PostBoardsWrongFalsely : Prop := postBoardsRow.holds Try.pinned (OpenSpec.ofChange postBoardsWrong)

/-- 'quinellalaw11.PostRefutes': WHATEVER THE INPUT: true; the input reads as it did. -/
def postRefutesSpec : ChangeSpec := { name := "postRefutes", fn := fun _ => fun
  | [d1, d2, d3, d4] => { results := [.lit (.bool true)], args := [d1, d2, d3, d4] }
  | _ => none }
def postRefutesRow : OpenClaim := { program := "ytnkplemacdipfaa", sum := "8c00e454fa092e79f0d5a4202b281e4b90c65f632f221e70efc2ee923c727ca5", func := "quinella/quinellalaw11.PostRefutes", spec := "postRefutes", unfollowed := true, recurses := true, plainKeys := false, apart := false }
def PostRefutesSaid : Prop := postRefutesRow.holds Try.pinned (OpenSpec.ofChange postRefutesSpec)

/-- ITS FALSE NEIGHBOUR: 'it returns false'. Refute it at one input. -/
def postRefutesWrong : ChangeSpec := { name := "postRefutes", fn := fun _ => fun
  | [d1, d2, d3, d4] => { results := [.lit (.bool false)], args := [d1, d2, d3, d4] }
  | _ => none }
def PostRefutesWrongFalsely : Prop := postRefutesRow.holds Try.pinned (OpenSpec.ofChange postRefutesWrong)

/-- 'quinellalaw11.PostWhens': WHATEVER THE INPUT: true; the input reads as it did. -/
def postWhensSpec : ChangeSpec := { name := "postWhens", fn := fun _ => fun
  | [d1, d2, d3] => { results := [.lit (.bool true)], args := [d1, d2, d3] }
  | _ => none }
def postWhensRow : OpenClaim := { program := "ytnkplemacdipfaa", sum := "8c00e454fa092e79f0d5a4202b281e4b90c65f632f221e70efc2ee923c727ca5", func := "quinella/quinellalaw11.PostWhens", spec := "postWhens", unfollowed := true, recurses := true, plainKeys := false, apart := false }
def PostWhensSaid : Prop := postWhensRow.holds Try.pinned (OpenSpec.ofChange postWhensSpec)

/-- ITS FALSE NEIGHBOUR: 'it returns false'. Refute it at one input. -/
def postWhensWrong : ChangeSpec := { name := "postWhens", fn := fun _ => fun
  | [d1, d2, d3] => { results := [.lit (.bool false)], args := [d1, d2, d3] }
  | _ => none }
def PostWhensWrongFalsely : Prop := postWhensRow.holds Try.pinned (OpenSpec.ofChange postWhensWrong)

/-- 'quinellalaw11.PostEither': WHATEVER THE INPUT: true; the input reads as it did. -/
def postEitherSpec : ChangeSpec := { name := "postEither", fn := fun _ => fun
  | [d1, d2, d3, d4] => { results := [.lit (.bool true)], args := [d1, d2, d3, d4] }
  | _ => none }
def postEitherRow : OpenClaim := { program := "ytnkplemacdipfaa", sum := "8c00e454fa092e79f0d5a4202b281e4b90c65f632f221e70efc2ee923c727ca5", func := "quinella/quinellalaw11.PostEither", spec := "postEither", unfollowed := true, recurses := true, plainKeys := false, apart := false }
def PostEitherSaid : Prop := postEitherRow.holds Try.pinned (OpenSpec.ofChange postEitherSpec)

/-- ITS FALSE NEIGHBOUR: 'it returns false'. Refute it at one input. -/
def postEitherWrong : ChangeSpec := { name := "postEither", fn := fun _ => fun
  | [d1, d2, d3, d4] => { results := [.lit (.bool false)], args := [d1, d2, d3, d4] }
  | _ => none }
def PostEitherWrongFalsely : Prop := postEitherRow.holds Try.pinned (OpenSpec.ofChange postEitherWrong)

/-- 'quinellalaw11.PostGreatest': WHATEVER THE INPUT: true; the input reads as it did. -/
def postGreatestSpec : ChangeSpec := { name := "postGreatest", fn := fun _ => fun
  | [d1, d2, d3] => { results := [.lit (.bool true)], args := [d1, d2, d3] }
  | _ => none }
def postGreatestRow : OpenClaim := { program := "ytnkplemacdipfaa", sum := "8c00e454fa092e79f0d5a4202b281e4b90c65f632f221e70efc2ee923c727ca5", func := "quinella/quinellalaw11.PostGreatest", spec := "postGreatest", unfollowed := true, recurses := true, plainKeys := false, apart := false }
def PostGreatestSaid : Prop := postGreatestRow.holds Try.pinned (OpenSpec.ofChange postGreatestSpec)

/-- ITS FALSE NEIGHBOUR: 'it returns false'. Refute it at one input. -/
def postGreatestWrong : ChangeSpec := { name := "postGreatest", fn := fun _ => fun
  | [d1, d2, d3] => { results := [.lit (.bool false)], args := [d1, d2, d3] }
  | _ => none }
def PostGreatestWrongFalsely : Prop := postGreatestRow.holds Try.pinned (OpenSpec.ofChange postGreatestWrong)

/-- 'quinellalaw11.PostLeft': WHATEVER THE INPUT: true; the input reads as it did. -/
def postLeftSpec : ChangeSpec := { name := "postLeft", fn := fun _ => fun
  | [d1, d2, d3, d4, d5] => { results := [.lit (.bool true)], args := [d1, d2, d3, d4, d5] }
  | _ => none }
def postLeftRow : OpenClaim := { program := "ytnkplemacdipfaa", sum := "8c00e454fa092e79f0d5a4202b281e4b90c65f632f221e70efc2ee923c727ca5", func := "quinella/quinellalaw11.PostLeft", spec := "postLeft", unfollowed := true, recurses := true, plainKeys := false, apart := false }
def PostLeftSaid : Prop := postLeftRow.holds Try.pinned (OpenSpec.ofChange postLeftSpec)

/-- ITS FALSE NEIGHBOUR: 'it returns false'. Refute it at one input. -/
def postLeftWrong : ChangeSpec := { name := "postLeft", fn := fun _ => fun
  | [d1, d2, d3, d4, d5] => { results := [.lit (.bool false)], args := [d1, d2, d3, d4, d5] }
  | _ => none }
def PostLeftWrongFalsely : Prop := postLeftRow.holds Try.pinned (OpenSpec.ofChange postLeftWrong)

/-- 'quinellalaw11.PostNarrower': WHATEVER THE INPUT: true; the input reads as it did. -/
def postNarrowerSpec : ChangeSpec := { name := "postNarrower", fn := fun _ => fun
  | [d1, d2, d3, d4] => { results := [.lit (.bool true)], args := [d1, d2, d3, d4] }
  | _ => none }
def postNarrowerRow : OpenClaim := { program := "ytnkplemacdipfaa", sum := "8c00e454fa092e79f0d5a4202b281e4b90c65f632f221e70efc2ee923c727ca5", func := "quinella/quinellalaw11.PostNarrower", spec := "postNarrower", unfollowed := true, recurses := true, plainKeys := false, apart := false }
def PostNarrowerSaid : Prop := postNarrowerRow.holds Try.pinned (OpenSpec.ofChange postNarrowerSpec)

/-- ITS FALSE NEIGHBOUR: 'it returns false'. Refute it at one input. -/
def postNarrowerWrong : ChangeSpec := { name := "postNarrower", fn := fun _ => fun
  | [d1, d2, d3, d4] => { results := [.lit (.bool false)], args := [d1, d2, d3, d4] }
  | _ => none }
def PostNarrowerWrongFalsely : Prop := postNarrowerRow.holds Try.pinned (OpenSpec.ofChange postNarrowerWrong)

/-- 'quinellalaw11.PostDearer': WHATEVER THE INPUT: true; the input reads as it did. -/
def postDearerSpec : ChangeSpec := { name := "postDearer", fn := fun _ => fun
  | [d1, d2, d3] => { results := [.lit (.bool true)], args := [d1, d2, d3] }
  | _ => none }
def postDearerRow : OpenClaim := { program := "ytnkplemacdipfaa", sum := "8c00e454fa092e79f0d5a4202b281e4b90c65f632f221e70efc2ee923c727ca5", func := "quinella/quinellalaw11.PostDearer", spec := "postDearer", unfollowed := true, recurses := true, plainKeys := false, apart := false }
def PostDearerSaid : Prop := postDearerRow.holds Try.pinned (OpenSpec.ofChange postDearerSpec)

/-- ITS FALSE NEIGHBOUR: 'it returns false'. Refute it at one input. -/
def postDearerWrong : ChangeSpec := { name := "postDearer", fn := fun _ => fun
  | [d1, d2, d3] => { results := [.lit (.bool false)], args := [d1, d2, d3] }
  | _ => none }
def PostDearerWrongFalsely : Prop := postDearerRow.holds Try.pinned (OpenSpec.ofChange postDearerWrong)

/-- 'quinellalaw11.PostNeeded': WHATEVER THE INPUT: true; the input reads as it did. -/
def postNeededSpec : ChangeSpec := { name := "postNeeded", fn := fun _ => fun
  | [d1, d2, d3] => { results := [.lit (.bool true)], args := [d1, d2, d3] }
  | _ => none }
def postNeededRow : OpenClaim := { program := "ytnkplemacdipfaa", sum := "8c00e454fa092e79f0d5a4202b281e4b90c65f632f221e70efc2ee923c727ca5", func := "quinella/quinellalaw11.PostNeeded", spec := "postNeeded", unfollowed := true, recurses := true, plainKeys := false, apart := false }
def PostNeededSaid : Prop := postNeededRow.holds Try.pinned (OpenSpec.ofChange postNeededSpec)

/-- ITS FALSE NEIGHBOUR: 'it returns false'. Refute it at one input. -/
def postNeededWrong : ChangeSpec := { name := "postNeeded", fn := fun _ => fun
  | [d1, d2, d3] => { results := [.lit (.bool false)], args := [d1, d2, d3] }
  | _ => none }
def PostNeededWrongFalsely : Prop := postNeededRow.holds Try.pinned (OpenSpec.ofChange postNeededWrong)

/-- 'quinellalaw11.PostClosed': WHATEVER THE INPUT: true; the input reads as it did. -/
def postClosedSpec : ChangeSpec := { name := "postClosed", fn := fun _ => fun
  | [d1, d2, d3] => { results := [.lit (.bool true)], args := [d1, d2, d3] }
  | _ => none }
def postClosedRow : OpenClaim := { program := "ytnkplemacdipfaa", sum := "8c00e454fa092e79f0d5a4202b281e4b90c65f632f221e70efc2ee923c727ca5", func := "quinella/quinellalaw11.PostClosed", spec := "postClosed", unfollowed := true, recurses := true, plainKeys := false, apart := false }
def PostClosedSaid : Prop := postClosedRow.holds Try.pinned (OpenSpec.ofChange postClosedSpec)

/-- ITS FALSE NEIGHBOUR: 'it returns false'. Refute it at one input. -/
def postClosedWrong : ChangeSpec := { name := "postClosed", fn := fun _ => fun
  | [d1, d2, d3] => { results := [.lit (.bool false)], args := [d1, d2, d3] }
  | _ => none }
def PostClosedWrongFalsely : Prop := postClosedRow.holds Try.pinned (OpenSpec.ofChange postClosedWrong)

/-- 'quinellalaw11.PostNamed': WHATEVER THE INPUT: true; the input reads as it did. -/
def postNamedSpec : ChangeSpec := { name := "postNamed", fn := fun _ => fun
  | [d1, d2, d3, d4] => { results := [.lit (.bool true)], args := [d1, d2, d3, d4] }
  | _ => none }
def postNamedRow : OpenClaim := { program := "ytnkplemacdipfaa", sum := "8c00e454fa092e79f0d5a4202b281e4b90c65f632f221e70efc2ee923c727ca5", func := "quinella/quinellalaw11.PostNamed", spec := "postNamed", unfollowed := true, recurses := true, plainKeys := false, apart := false }
def PostNamedSaid : Prop := postNamedRow.holds Try.pinned (OpenSpec.ofChange postNamedSpec)

/-- ITS FALSE NEIGHBOUR: 'it returns false'. Refute it at one input. -/
def postNamedWrong : ChangeSpec := { name := "postNamed", fn := fun _ => fun
  | [d1, d2, d3, d4] => { results := [.lit (.bool false)], args := [d1, d2, d3, d4] }
  | _ => none }
def PostNamedWrongFalsely : Prop := postNamedRow.holds Try.pinned (OpenSpec.ofChange postNamedWrong)

/-- 'quinellalaw11.PostOthers': WHATEVER THE INPUT: true; the input reads as it did. -/
def postOthersSpec : ChangeSpec := { name := "postOthers", fn := fun _ => fun
  | [d1, d2, d3, d4] => { results := [.lit (.bool true)], args := [d1, d2, d3, d4] }
  | _ => none }
def postOthersRow : OpenClaim := { program := "ytnkplemacdipfaa", sum := "8c00e454fa092e79f0d5a4202b281e4b90c65f632f221e70efc2ee923c727ca5", func := "quinella/quinellalaw11.PostOthers", spec := "postOthers", unfollowed := true, recurses := true, plainKeys := false, apart := false }
def PostOthersSaid : Prop := postOthersRow.holds Try.pinned (OpenSpec.ofChange postOthersSpec)

/-- ITS FALSE NEIGHBOUR: 'it returns false'. Refute it at one input. -/
def postOthersWrong : ChangeSpec := { name := "postOthers", fn := fun _ => fun
  | [d1, d2, d3, d4] => { results := [.lit (.bool false)], args := [d1, d2, d3, d4] }
  | _ => none }
def PostOthersWrongFalsely : Prop := postOthersRow.holds Try.pinned (OpenSpec.ofChange postOthersWrong)

/-- 'quinellalaw11.PostKnown': WHATEVER THE INPUT: true; the input reads as it did. -/
def postKnownSpec : ChangeSpec := { name := "postKnown", fn := fun _ => fun
  | [] => { results := [.lit (.bool true)], args := [] }
  | _ => none }
def postKnownRow : OpenClaim := { program := "ytnkplemacdipfaa", sum := "8c00e454fa092e79f0d5a4202b281e4b90c65f632f221e70efc2ee923c727ca5", func := "quinella/quinellalaw11.PostKnown", spec := "postKnown", unfollowed := true, recurses := true, plainKeys := false, apart := false }
def PostKnownSaid : Prop := postKnownRow.holds Try.pinned (OpenSpec.ofChange postKnownSpec)

/-- ITS FALSE NEIGHBOUR: 'it returns false'. Refute it at one input. -/
def postKnownWrong : ChangeSpec := { name := "postKnown", fn := fun _ => fun
  | [] => { results := [.lit (.bool false)], args := [] }
  | _ => none }
def PostKnownWrongFalsely : Prop := postKnownRow.holds Try.pinned (OpenSpec.ofChange postKnownWrong)

/- THE SECOND FORM. 'bulk': how many values and letters a reading holds, each counted each time it is reached (what is shared counts as often as it is met; a slice's spare places count too). A statement '..UptoSaid' is the law's where the arguments, and the package variables that the reading takes, are together of bulk at most 1048576: NARROWER than '..Said'. Prove '..Said' where nothing that the law and all that it calls make is longer than what came in: it says more and counts as full. Else prove '..UptoSaid'. A law counts once. -/
mutual
def uptoBulk {H : Type} : DataW H → Nat
  | .lit (.string bytes) => bytes.length + 1
  | .lit _ => 1
  | .nil => 1
  | .ptr d => uptoBulk d + 1
  | .slice elems spare => uptoBulkAll elems + uptoBulkAll spare + 1
  | .agg parts => uptoBulkAll parts + 1
  | .iface _ d => uptoBulk d + 1
  | .map entries => uptoBulkEntries entries + 1
  | .held _ => 1
def uptoBulkAll {H : Type} : List (DataW H) → Nat
  | [] => 0
  | d :: r => uptoBulk d + uptoBulkAll r
def uptoBulkEntries {H : Type} : List (Lit × DataW H) → Nat
  | [] => 0
  | x :: r => uptoBulkEntry x + uptoBulkEntries r
def uptoBulkEntry {H : Type} : Lit × DataW H → Nat
  | (.string bytes, d) => bytes.length + uptoBulk d + 1
  | (_, d) => uptoBulk d + 1
 end
def uptoSmall : (H : Type) → List (DataW H) → Bool := fun _ ds => decide (uptoBulkAll ds ≤ 1048576)
def OpenSpec.upto (s : _root_.Go.ChangeSpec) : _root_.Go.OpenSpec := { _root_.Go.OpenSpec.ofChange s with cond := some uptoSmall }

/-- 'quinellalaw11.PostPools', WHERE WHAT IT READS IS OF BULK AT MOST 1048576: true; the input reads as it did. -/
def postPoolsUptoRow : OpenClaim := { program := "ytnkplemacdipfaa", sum := "8c00e454fa092e79f0d5a4202b281e4b90c65f632f221e70efc2ee923c727ca5", func := "quinella/quinellalaw11.PostPools", spec := "postPools", unfollowed := true, recurses := true, plainKeys := false, apart := false, narrowed := true }
def PostPoolsUptoSaid : Prop := postPoolsUptoRow.holds Try.pinned (OpenSpec.upto postPoolsSpec)

/-- 'quinellalaw11.PostSpreads', WHERE WHAT IT READS IS OF BULK AT MOST 1048576: true; the input reads as it did. -/
def postSpreadsUptoRow : OpenClaim := { program := "ytnkplemacdipfaa", sum := "8c00e454fa092e79f0d5a4202b281e4b90c65f632f221e70efc2ee923c727ca5", func := "quinella/quinellalaw11.PostSpreads", spec := "postSpreads", unfollowed := true, recurses := true, plainKeys := false, apart := false, narrowed := true }
def PostSpreadsUptoSaid : Prop := postSpreadsUptoRow.holds Try.pinned (OpenSpec.upto postSpreadsSpec)

/-- 'quinellalaw11.PostBoards', WHERE WHAT IT READS IS OF BULK AT MOST 1048576: true; the input reads as it did. -/
def postBoardsUptoRow : OpenClaim := { program := "ytnkplemacdipfaa", sum := "8c00e454fa092e79f0d5a4202b281e4b90c65f632f221e70efc2ee923c727ca5", func := "quinella/quinellalaw11.PostBoards", spec := "postBoards", unfollowed := true, recurses := true, plainKeys := false, apart := false, narrowed := true }
def PostBoardsUptoSaid : Prop := postBoardsUptoRow.holds Try.pinned (OpenSpec.upto postBoardsSpec)

/-- 'quinellalaw11.PostRefutes', WHERE WHAT IT READS IS OF BULK AT MOST 1048576: true; the input reads as it did. -/
def postRefutesUptoRow : OpenClaim := { program := "ytnkplemacdipfaa", sum := "8c00e454fa092e79f0d5a4202b281e4b90c65f632f221e70efc2ee923c727ca5", func := "quinella/quinellalaw11.PostRefutes", spec := "postRefutes", unfollowed := true, recurses := true, plainKeys := false, apart := false, narrowed := true }
def PostRefutesUptoSaid : Prop := postRefutesUptoRow.holds Try.pinned (OpenSpec.upto postRefutesSpec)

/-- 'quinellalaw11.PostWhens', WHERE WHAT IT READS IS OF BULK AT MOST 1048576: true; the input reads as it did. -/
def postWhensUptoRow : OpenClaim := { program := "ytnkplemacdipfaa", sum := "8c00e454fa092e79f0d5a4202b281e4b90c65f632f221e70efc2ee923c727ca5", func := "quinella/quinellalaw11.PostWhens", spec := "postWhens", unfollowed := true, recurses := true, plainKeys := false, apart := false, narrowed := true }
def PostWhensUptoSaid : Prop := postWhensUptoRow.holds Try.pinned (OpenSpec.upto postWhensSpec)

/-- 'quinellalaw11.PostEither', WHERE WHAT IT READS IS OF BULK AT MOST 1048576: true; the input reads as it did. -/
def postEitherUptoRow : OpenClaim := { program := "ytnkplemacdipfaa", sum := "8c00e454fa092e79f0d5a4202b281e4b90c65f632f221e70efc2ee923c727ca5", func := "quinella/quinellalaw11.PostEither", spec := "postEither", unfollowed := true, recurses := true, plainKeys := false, apart := false, narrowed := true }
def PostEitherUptoSaid : Prop := postEitherUptoRow.holds Try.pinned (OpenSpec.upto postEitherSpec)

/-- 'quinellalaw11.PostGreatest', WHERE WHAT IT READS IS OF BULK AT MOST 1048576: true; the input reads as it did. -/
def postGreatestUptoRow : OpenClaim := { program := "ytnkplemacdipfaa", sum := "8c00e454fa092e79f0d5a4202b281e4b90c65f632f221e70efc2ee923c727ca5", func := "quinella/quinellalaw11.PostGreatest", spec := "postGreatest", unfollowed := true, recurses := true, plainKeys := false, apart := false, narrowed := true }
def PostGreatestUptoSaid : Prop := postGreatestUptoRow.holds Try.pinned (OpenSpec.upto postGreatestSpec)

/-- 'quinellalaw11.PostLeft', WHERE WHAT IT READS IS OF BULK AT MOST 1048576: true; the input reads as it did. -/
def postLeftUptoRow : OpenClaim := { program := "ytnkplemacdipfaa", sum := "8c00e454fa092e79f0d5a4202b281e4b90c65f632f221e70efc2ee923c727ca5", func := "quinella/quinellalaw11.PostLeft", spec := "postLeft", unfollowed := true, recurses := true, plainKeys := false, apart := false, narrowed := true }
def PostLeftUptoSaid : Prop := postLeftUptoRow.holds Try.pinned (OpenSpec.upto postLeftSpec)

/-- 'quinellalaw11.PostNarrower', WHERE WHAT IT READS IS OF BULK AT MOST 1048576: true; the input reads as it did. -/
def postNarrowerUptoRow : OpenClaim := { program := "ytnkplemacdipfaa", sum := "8c00e454fa092e79f0d5a4202b281e4b90c65f632f221e70efc2ee923c727ca5", func := "quinella/quinellalaw11.PostNarrower", spec := "postNarrower", unfollowed := true, recurses := true, plainKeys := false, apart := false, narrowed := true }
def PostNarrowerUptoSaid : Prop := postNarrowerUptoRow.holds Try.pinned (OpenSpec.upto postNarrowerSpec)

/-- 'quinellalaw11.PostDearer', WHERE WHAT IT READS IS OF BULK AT MOST 1048576: true; the input reads as it did. -/
def postDearerUptoRow : OpenClaim := { program := "ytnkplemacdipfaa", sum := "8c00e454fa092e79f0d5a4202b281e4b90c65f632f221e70efc2ee923c727ca5", func := "quinella/quinellalaw11.PostDearer", spec := "postDearer", unfollowed := true, recurses := true, plainKeys := false, apart := false, narrowed := true }
def PostDearerUptoSaid : Prop := postDearerUptoRow.holds Try.pinned (OpenSpec.upto postDearerSpec)

/-- 'quinellalaw11.PostNeeded', WHERE WHAT IT READS IS OF BULK AT MOST 1048576: true; the input reads as it did. -/
def postNeededUptoRow : OpenClaim := { program := "ytnkplemacdipfaa", sum := "8c00e454fa092e79f0d5a4202b281e4b90c65f632f221e70efc2ee923c727ca5", func := "quinella/quinellalaw11.PostNeeded", spec := "postNeeded", unfollowed := true, recurses := true, plainKeys := false, apart := false, narrowed := true }
def PostNeededUptoSaid : Prop := postNeededUptoRow.holds Try.pinned (OpenSpec.upto postNeededSpec)

/-- 'quinellalaw11.PostClosed', WHERE WHAT IT READS IS OF BULK AT MOST 1048576: true; the input reads as it did. -/
def postClosedUptoRow : OpenClaim := { program := "ytnkplemacdipfaa", sum := "8c00e454fa092e79f0d5a4202b281e4b90c65f632f221e70efc2ee923c727ca5", func := "quinella/quinellalaw11.PostClosed", spec := "postClosed", unfollowed := true, recurses := true, plainKeys := false, apart := false, narrowed := true }
def PostClosedUptoSaid : Prop := postClosedUptoRow.holds Try.pinned (OpenSpec.upto postClosedSpec)

/-- 'quinellalaw11.PostNamed', WHERE WHAT IT READS IS OF BULK AT MOST 1048576: true; the input reads as it did. -/
def postNamedUptoRow : OpenClaim := { program := "ytnkplemacdipfaa", sum := "8c00e454fa092e79f0d5a4202b281e4b90c65f632f221e70efc2ee923c727ca5", func := "quinella/quinellalaw11.PostNamed", spec := "postNamed", unfollowed := true, recurses := true, plainKeys := false, apart := false, narrowed := true }
def PostNamedUptoSaid : Prop := postNamedUptoRow.holds Try.pinned (OpenSpec.upto postNamedSpec)

/-- 'quinellalaw11.PostOthers', WHERE WHAT IT READS IS OF BULK AT MOST 1048576: true; the input reads as it did. -/
def postOthersUptoRow : OpenClaim := { program := "ytnkplemacdipfaa", sum := "8c00e454fa092e79f0d5a4202b281e4b90c65f632f221e70efc2ee923c727ca5", func := "quinella/quinellalaw11.PostOthers", spec := "postOthers", unfollowed := true, recurses := true, plainKeys := false, apart := false, narrowed := true }
def PostOthersUptoSaid : Prop := postOthersUptoRow.holds Try.pinned (OpenSpec.upto postOthersSpec)

/-- 'quinellalaw11.PostKnown', WHERE WHAT IT READS IS OF BULK AT MOST 1048576: true; the input reads as it did. -/
def postKnownUptoRow : OpenClaim := { program := "ytnkplemacdipfaa", sum := "8c00e454fa092e79f0d5a4202b281e4b90c65f632f221e70efc2ee923c727ca5", func := "quinella/quinellalaw11.PostKnown", spec := "postKnown", unfollowed := true, recurses := true, plainKeys := false, apart := false, narrowed := true }
def PostKnownUptoSaid : Prop := postKnownUptoRow.holds Try.pinned (OpenSpec.upto postKnownSpec)

end Rows
end Go.Proofs.Ytnkplemacdipfaa
