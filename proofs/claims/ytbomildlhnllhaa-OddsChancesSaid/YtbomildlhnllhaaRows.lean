/-
  No cell of these rows narrows 'for every input' (looked for: loops, veiled, ifaces, maps, wideKeys, modest, calm, conditions, laid).
  DERIVED. THE GIVEN ROWS OF THIS SEAT. 13 by the template 'for every input the law returns true; each argument reads behind the call as it read before'; 0 by the template 'total and deterministic' (their statements: YtbomildlhnllhaaTotals.lean).
  GIVEN WITH THE SEED: the statements are not yours to turn. If you find one false, say at which input.
  Laid BY PROGRAM, IN A SANDBOX (cutbox-rows.mjs): the forced cells as the released guide's own fill.sh prints them over the translation e5606422e77afa3c… (all of the seat's roots in one cut). By AI agents, Wed Nov 11 2026. No macro, syntax, notation, axiom, sorry.
-/
import Derived.Test.YtbomildlhnllhaaChecked
import GoSem.Claim
import GoSem.ClaimJoined
import GoSem.ClaimMapViews
import Derived.JoinedTies
import Derived.KernelRfl
namespace Go.Proofs.Ytbomildlhnllhaa
/- THE CELL 'sum', in the pinned program and in every row, IS THE sha256 OF THE DUMP (.gsa) THAT YtbomildlhnllhaaProg.lean LOADS. Nothing in Lean hashes anything: it is a label: what it is worth is what the hold of that sum in a sandbox is worth. -/
noncomputable def Try.pinned : Pinned := { name := "ytbomildlhnllhaa", sum := "e5606422e77afa3c2c2acd1d363a21736282b9c1bdf4534afbc05f05ff461a98", checked := Try.checked }
namespace Rows
def none {H : Type} : Left H := { results := [], args := [] }

/-- 'quinellalaw04.OddsNears': WHATEVER THE INPUT: true; the input reads as it did. -/
def oddsNearsSpec : ChangeSpec := { name := "oddsNears", fn := fun _ => fun
  | [d1, d2, d3, d4] => { results := [.lit (.bool true)], args := [d1, d2, d3, d4] }
  | _ => none }
def oddsNearsRow : OpenClaim := { program := "ytbomildlhnllhaa", sum := "e5606422e77afa3c2c2acd1d363a21736282b9c1bdf4534afbc05f05ff461a98", func := "quinella/quinellalaw04.OddsNears", spec := "oddsNears", unfollowed := true, recurses := true, plainKeys := false, apart := false }
def OddsNearsSaid : Prop := oddsNearsRow.holds Try.pinned (OpenSpec.ofChange oddsNearsSpec)

/-- ITS FALSE NEIGHBOUR: 'it returns false'. Refute it at one input. -/
def oddsNearsWrong : ChangeSpec := { name := "oddsNears", fn := fun _ => fun
  | [d1, d2, d3, d4] => { results := [.lit (.bool false)], args := [d1, d2, d3, d4] }
  | _ => none }
def OddsNearsWrongFalsely : Prop := oddsNearsRow.holds Try.pinned (OpenSpec.ofChange oddsNearsWrong)

/-- 'quinellalaw04.OddsSimples': WHATEVER THE INPUT: true; the input reads as it did. -/
def oddsSimplesSpec : ChangeSpec := { name := "oddsSimples", fn := fun _ => fun
  | [d1, d2] => { results := [.lit (.bool true)], args := [d1, d2] }
  | _ => none }
def oddsSimplesRow : OpenClaim := { program := "ytbomildlhnllhaa", sum := "e5606422e77afa3c2c2acd1d363a21736282b9c1bdf4534afbc05f05ff461a98", func := "quinella/quinellalaw04.OddsSimples", spec := "oddsSimples", unfollowed := true, recurses := true, plainKeys := false, apart := false }
def OddsSimplesSaid : Prop := oddsSimplesRow.holds Try.pinned (OpenSpec.ofChange oddsSimplesSpec)

/-- ITS FALSE NEIGHBOUR: 'it returns false'. Refute it at one input. -/
def oddsSimplesWrong : ChangeSpec := { name := "oddsSimples", fn := fun _ => fun
  | [d1, d2] => { results := [.lit (.bool false)], args := [d1, d2] }
  | _ => none }
def OddsSimplesWrongFalsely : Prop := oddsSimplesRow.holds Try.pinned (OpenSpec.ofChange oddsSimplesWrong)

/-- 'quinellalaw04.OddsBoards': WHATEVER THE INPUT: true; the input reads as it did. -/
def oddsBoardsSpec : ChangeSpec := { name := "oddsBoards", fn := fun _ => fun
  | [d1, d2, d3] => { results := [.lit (.bool true)], args := [d1, d2, d3] }
  | _ => none }
def oddsBoardsRow : OpenClaim := { program := "ytbomildlhnllhaa", sum := "e5606422e77afa3c2c2acd1d363a21736282b9c1bdf4534afbc05f05ff461a98", func := "quinella/quinellalaw04.OddsBoards", spec := "oddsBoards", unfollowed := true, recurses := true, plainKeys := false, apart := false }
def OddsBoardsSaid : Prop := oddsBoardsRow.holds Try.pinned (OpenSpec.ofChange oddsBoardsSpec)

/-- ITS FALSE NEIGHBOUR: 'it returns false'. Refute it at one input. -/
def oddsBoardsWrong : ChangeSpec := { name := "oddsBoards", fn := fun _ => fun
  | [d1, d2, d3] => { results := [.lit (.bool false)], args := [d1, d2, d3] }
  | _ => none }
def OddsBoardsWrongFalsely : Prop := oddsBoardsRow.holds Try.pinned (OpenSpec.ofChange oddsBoardsWrong)

/-- 'quinellalaw04.OddsNets': WHATEVER THE INPUT: true; the input reads as it did. -/
def oddsNetsSpec : ChangeSpec := { name := "oddsNets", fn := fun _ => fun
  | [d1, d2, d3] => { results := [.lit (.bool true)], args := [d1, d2, d3] }
  | _ => none }
def oddsNetsRow : OpenClaim := { program := "ytbomildlhnllhaa", sum := "e5606422e77afa3c2c2acd1d363a21736282b9c1bdf4534afbc05f05ff461a98", func := "quinella/quinellalaw04.OddsNets", spec := "oddsNets", unfollowed := true, recurses := true, plainKeys := false, apart := false }
def OddsNetsSaid : Prop := oddsNetsRow.holds Try.pinned (OpenSpec.ofChange oddsNetsSpec)

/-- ITS FALSE NEIGHBOUR: 'it returns false'. Refute it at one input. -/
def oddsNetsWrong : ChangeSpec := { name := "oddsNets", fn := fun _ => fun
  | [d1, d2, d3] => { results := [.lit (.bool false)], args := [d1, d2, d3] }
  | _ => none }
def OddsNetsWrongFalsely : Prop := oddsNetsRow.holds Try.pinned (OpenSpec.ofChange oddsNetsWrong)

/-- 'quinellalaw04.OddsChances': WHATEVER THE INPUT: true; the input reads as it did. -/
def oddsChancesSpec : ChangeSpec := { name := "oddsChances", fn := fun _ => fun
  | [d1, d2] => { results := [.lit (.bool true)], args := [d1, d2] }
  | _ => none }
def oddsChancesRow : OpenClaim := { program := "ytbomildlhnllhaa", sum := "e5606422e77afa3c2c2acd1d363a21736282b9c1bdf4534afbc05f05ff461a98", func := "quinella/quinellalaw04.OddsChances", spec := "oddsChances", unfollowed := true, recurses := true, plainKeys := false, apart := false }
def OddsChancesSaid : Prop := oddsChancesRow.holds Try.pinned (OpenSpec.ofChange oddsChancesSpec)

/-- ITS FALSE NEIGHBOUR: 'it returns false'. Refute it at one input. -/
def oddsChancesWrong : ChangeSpec := { name := "oddsChances", fn := fun _ => fun
  | [d1, d2] => { results := [.lit (.bool false)], args := [d1, d2] }
  | _ => none }
def OddsChancesWrongFalsely : Prop := oddsChancesRow.holds Try.pinned (OpenSpec.ofChange oddsChancesWrong)

/-- 'quinellalaw04.OddsEither': WHATEVER THE INPUT: true; the input reads as it did. -/
def oddsEitherSpec : ChangeSpec := { name := "oddsEither", fn := fun _ => fun
  | [d1, d2, d3] => { results := [.lit (.bool true)], args := [d1, d2, d3] }
  | _ => none }
def oddsEitherRow : OpenClaim := { program := "ytbomildlhnllhaa", sum := "e5606422e77afa3c2c2acd1d363a21736282b9c1bdf4534afbc05f05ff461a98", func := "quinella/quinellalaw04.OddsEither", spec := "oddsEither", unfollowed := true, recurses := true, plainKeys := false, apart := false }
def OddsEitherSaid : Prop := oddsEitherRow.holds Try.pinned (OpenSpec.ofChange oddsEitherSpec)

/-- ITS FALSE NEIGHBOUR: 'it returns false'. Refute it at one input. -/
def oddsEitherWrong : ChangeSpec := { name := "oddsEither", fn := fun _ => fun
  | [d1, d2, d3] => { results := [.lit (.bool false)], args := [d1, d2, d3] }
  | _ => none }
def OddsEitherWrongFalsely : Prop := oddsEitherRow.holds Try.pinned (OpenSpec.ofChange oddsEitherWrong)

/-- 'quinellalaw04.OddsNeighbours': WHATEVER THE INPUT: true; the input reads as it did. -/
def oddsNeighboursSpec : ChangeSpec := { name := "oddsNeighbours", fn := fun _ => fun
  | [d1, d2, d3, d4, d5, d6, d7] => { results := [.lit (.bool true)], args := [d1, d2, d3, d4, d5, d6, d7] }
  | _ => none }
def oddsNeighboursRow : OpenClaim := { program := "ytbomildlhnllhaa", sum := "e5606422e77afa3c2c2acd1d363a21736282b9c1bdf4534afbc05f05ff461a98", func := "quinella/quinellalaw04.OddsNeighbours", spec := "oddsNeighbours", unfollowed := true, recurses := true, plainKeys := false, apart := false }
def OddsNeighboursSaid : Prop := oddsNeighboursRow.holds Try.pinned (OpenSpec.ofChange oddsNeighboursSpec)

/-- ITS FALSE NEIGHBOUR: 'it returns false'. Refute it at one input. -/
def oddsNeighboursWrong : ChangeSpec := { name := "oddsNeighbours", fn := fun _ => fun
  | [d1, d2, d3, d4, d5, d6, d7] => { results := [.lit (.bool false)], args := [d1, d2, d3, d4, d5, d6, d7] }
  | _ => none }
def OddsNeighboursWrongFalsely : Prop := oddsNeighboursRow.holds Try.pinned (OpenSpec.ofChange oddsNeighboursWrong)

/-- 'quinellalaw04.OddsSimple': WHATEVER THE INPUT: true; the input reads as it did. -/
def oddsSimpleSpec : ChangeSpec := { name := "oddsSimple", fn := fun _ => fun
  | [d1, d2, d3] => { results := [.lit (.bool true)], args := [d1, d2, d3] }
  | _ => none }
def oddsSimpleRow : OpenClaim := { program := "ytbomildlhnllhaa", sum := "e5606422e77afa3c2c2acd1d363a21736282b9c1bdf4534afbc05f05ff461a98", func := "quinella/quinellalaw04.OddsSimple", spec := "oddsSimple", unfollowed := true, recurses := true, plainKeys := false, apart := false }
def OddsSimpleSaid : Prop := oddsSimpleRow.holds Try.pinned (OpenSpec.ofChange oddsSimpleSpec)

/-- ITS FALSE NEIGHBOUR: 'it returns false'. Refute it at one input. -/
def oddsSimpleWrong : ChangeSpec := { name := "oddsSimple", fn := fun _ => fun
  | [d1, d2, d3] => { results := [.lit (.bool false)], args := [d1, d2, d3] }
  | _ => none }
def OddsSimpleWrongFalsely : Prop := oddsSimpleRow.holds Try.pinned (OpenSpec.ofChange oddsSimpleWrong)

/-- 'quinellalaw04.OddsLate': WHATEVER THE INPUT: true; the input reads as it did. -/
def oddsLateSpec : ChangeSpec := { name := "oddsLate", fn := fun _ => fun
  | [d1, d2, d3, d4, d5, d6] => { results := [.lit (.bool true)], args := [d1, d2, d3, d4, d5, d6] }
  | _ => none }
def oddsLateRow : OpenClaim := { program := "ytbomildlhnllhaa", sum := "e5606422e77afa3c2c2acd1d363a21736282b9c1bdf4534afbc05f05ff461a98", func := "quinella/quinellalaw04.OddsLate", spec := "oddsLate", unfollowed := true, recurses := true, plainKeys := false, apart := false }
def OddsLateSaid : Prop := oddsLateRow.holds Try.pinned (OpenSpec.ofChange oddsLateSpec)

/-- ITS FALSE NEIGHBOUR: 'it returns false'. Refute it at one input. -/
def oddsLateWrong : ChangeSpec := { name := "oddsLate", fn := fun _ => fun
  | [d1, d2, d3, d4, d5, d6] => { results := [.lit (.bool false)], args := [d1, d2, d3, d4, d5, d6] }
  | _ => none }
def OddsLateWrongFalsely : Prop := oddsLateRow.holds Try.pinned (OpenSpec.ofChange oddsLateWrong)

/-- 'quinellalaw04.OddsKept': WHATEVER THE INPUT: true; the input reads as it did. -/
def oddsKeptSpec : ChangeSpec := { name := "oddsKept", fn := fun _ => fun
  | [d1, d2] => { results := [.lit (.bool true)], args := [d1, d2] }
  | _ => none }
def oddsKeptRow : OpenClaim := { program := "ytbomildlhnllhaa", sum := "e5606422e77afa3c2c2acd1d363a21736282b9c1bdf4534afbc05f05ff461a98", func := "quinella/quinellalaw04.OddsKept", spec := "oddsKept", unfollowed := true, recurses := true, plainKeys := false, apart := false }
def OddsKeptSaid : Prop := oddsKeptRow.holds Try.pinned (OpenSpec.ofChange oddsKeptSpec)

/-- ITS FALSE NEIGHBOUR: 'it returns false'. Refute it at one input. -/
def oddsKeptWrong : ChangeSpec := { name := "oddsKept", fn := fun _ => fun
  | [d1, d2] => { results := [.lit (.bool false)], args := [d1, d2] }
  | _ => none }
def OddsKeptWrongFalsely : Prop := oddsKeptRow.holds Try.pinned (OpenSpec.ofChange oddsKeptWrong)

/-- 'quinellalaw04.OddsMore': WHATEVER THE INPUT: true; the input reads as it did. -/
def oddsMoreSpec : ChangeSpec := { name := "oddsMore", fn := fun _ => fun
  | [d1, d2] => { results := [.lit (.bool true)], args := [d1, d2] }
  | _ => none }
def oddsMoreRow : OpenClaim := { program := "ytbomildlhnllhaa", sum := "e5606422e77afa3c2c2acd1d363a21736282b9c1bdf4534afbc05f05ff461a98", func := "quinella/quinellalaw04.OddsMore", spec := "oddsMore", unfollowed := true, recurses := true, plainKeys := false, apart := false }
def OddsMoreSaid : Prop := oddsMoreRow.holds Try.pinned (OpenSpec.ofChange oddsMoreSpec)

/-- ITS FALSE NEIGHBOUR: 'it returns false'. Refute it at one input. -/
def oddsMoreWrong : ChangeSpec := { name := "oddsMore", fn := fun _ => fun
  | [d1, d2] => { results := [.lit (.bool false)], args := [d1, d2] }
  | _ => none }
def OddsMoreWrongFalsely : Prop := oddsMoreRow.holds Try.pinned (OpenSpec.ofChange oddsMoreWrong)

/-- 'quinellalaw04.OddsTimes': WHATEVER THE INPUT: true; the input reads as it did. -/
def oddsTimesSpec : ChangeSpec := { name := "oddsTimes", fn := fun _ => fun
  | [d1, d2, d3, d4, d5] => { results := [.lit (.bool true)], args := [d1, d2, d3, d4, d5] }
  | _ => none }
def oddsTimesRow : OpenClaim := { program := "ytbomildlhnllhaa", sum := "e5606422e77afa3c2c2acd1d363a21736282b9c1bdf4534afbc05f05ff461a98", func := "quinella/quinellalaw04.OddsTimes", spec := "oddsTimes", unfollowed := true, recurses := true, plainKeys := false, apart := false }
def OddsTimesSaid : Prop := oddsTimesRow.holds Try.pinned (OpenSpec.ofChange oddsTimesSpec)

/-- ITS FALSE NEIGHBOUR: 'it returns false'. Refute it at one input. -/
def oddsTimesWrong : ChangeSpec := { name := "oddsTimes", fn := fun _ => fun
  | [d1, d2, d3, d4, d5] => { results := [.lit (.bool false)], args := [d1, d2, d3, d4, d5] }
  | _ => none }
def OddsTimesWrongFalsely : Prop := oddsTimesRow.holds Try.pinned (OpenSpec.ofChange oddsTimesWrong)

/-- 'quinellalaw04.OddsKnown': WHATEVER THE INPUT: true; the input reads as it did. -/
def oddsKnownSpec : ChangeSpec := { name := "oddsKnown", fn := fun _ => fun
  | [] => { results := [.lit (.bool true)], args := [] }
  | _ => none }
def oddsKnownRow : OpenClaim := { program := "ytbomildlhnllhaa", sum := "e5606422e77afa3c2c2acd1d363a21736282b9c1bdf4534afbc05f05ff461a98", func := "quinella/quinellalaw04.OddsKnown", spec := "oddsKnown", unfollowed := true, recurses := true, plainKeys := false, apart := false }
def OddsKnownSaid : Prop := oddsKnownRow.holds Try.pinned (OpenSpec.ofChange oddsKnownSpec)

/-- ITS FALSE NEIGHBOUR: 'it returns false'. Refute it at one input. -/
def oddsKnownWrong : ChangeSpec := { name := "oddsKnown", fn := fun _ => fun
  | [] => { results := [.lit (.bool false)], args := [] }
  | _ => none }
def OddsKnownWrongFalsely : Prop := oddsKnownRow.holds Try.pinned (OpenSpec.ofChange oddsKnownWrong)

/- THE SECOND FORM. 'bulk': how many values and letters a reading holds, each counted each time it is reached (what is shared counts as often as it is met; a slice's spare places count too). A statement '..UptoSaid' is the law's where the arguments, and the package variables that the reading takes, are together of bulk at most 1048576: NARROWER than '..Said'. Prove '..Said' where nothing that the law and all that it calls make is longer than what came in: it says more and counts as full. Else prove '..UptoSaid'. A law counts once. -/
mutual
def uptoBulk {H : Type} : DataW H → Nat
  | .lit (.string bytes) => bytes.length + 1
  | .lit _ => 1
  | .nil => 1
  | .ptr d => uptoBulk d + 1
  | .slice elems spare => uptoBulkAll elems + uptoBulkAll spare + 1
  | .agg parts => uptoBulkAll parts + 1
  | .iface _ d => uptoBulk d + 1
  | .map entries => uptoBulkEntries entries + 1
  | .held _ => 1
def uptoBulkAll {H : Type} : List (DataW H) → Nat
  | [] => 0
  | d :: r => uptoBulk d + uptoBulkAll r
def uptoBulkEntries {H : Type} : List (Lit × DataW H) → Nat
  | [] => 0
  | x :: r => uptoBulkEntry x + uptoBulkEntries r
def uptoBulkEntry {H : Type} : Lit × DataW H → Nat
  | (.string bytes, d) => bytes.length + uptoBulk d + 1
  | (_, d) => uptoBulk d + 1
 end
def uptoSmall : (H : Type) → List (DataW H) → Bool := fun _ ds => decide (uptoBulkAll ds ≤ 1048576)
def OpenSpec.upto (s : _root_.Go.ChangeSpec) : _root_.Go.OpenSpec := { _root_.Go.OpenSpec.ofChange s with cond := some uptoSmall }

/-- 'quinellalaw04.OddsNears', WHERE WHAT IT READS IS OF BULK AT MOST 1048576: true; the input reads as it did. -/
def oddsNearsUptoRow : OpenClaim := { program := "ytbomildlhnllhaa", sum := "e5606422e77afa3c2c2acd1d363a21736282b9c1bdf4534afbc05f05ff461a98", func := "quinella/quinellalaw04.OddsNears", spec := "oddsNears", unfollowed := true, recurses := true, plainKeys := false, apart := false, narrowed := true }
def OddsNearsUptoSaid : Prop := oddsNearsUptoRow.holds Try.pinned (OpenSpec.upto oddsNearsSpec)

/-- 'quinellalaw04.OddsSimples', WHERE WHAT IT READS IS OF BULK AT MOST 1048576: true; the input reads as it did. -/
def oddsSimplesUptoRow : OpenClaim := { program := "ytbomildlhnllhaa", sum := "e5606422e77afa3c2c2acd1d363a21736282b9c1bdf4534afbc05f05ff461a98", func := "quinella/quinellalaw04.OddsSimples", spec := "oddsSimples", unfollowed := true, recurses := true, plainKeys := false, apart := false, narrowed := true }
def OddsSimplesUptoSaid : Prop := oddsSimplesUptoRow.holds Try.pinned (OpenSpec.upto oddsSimplesSpec)

/-- 'quinellalaw04.OddsBoards', WHERE WHAT IT READS IS OF BULK AT MOST 1048576: true; the input reads as it did. -/
def oddsBoardsUptoRow : OpenClaim := { program := "ytbomildlhnllhaa", sum := "e5606422e77afa3c2c2acd1d363a21736282b9c1bdf4534afbc05f05ff461a98", func := "quinella/quinellalaw04.OddsBoards", spec := "oddsBoards", unfollowed := true, recurses := true, plainKeys := false, apart := false, narrowed := true }
def OddsBoardsUptoSaid : Prop := oddsBoardsUptoRow.holds Try.pinned (OpenSpec.upto oddsBoardsSpec)

/-- 'quinellalaw04.OddsNets', WHERE WHAT IT READS IS OF BULK AT MOST 1048576: true; the input reads as it did. -/
def oddsNetsUptoRow : OpenClaim := { program := "ytbomildlhnllhaa", sum := "e5606422e77afa3c2c2acd1d363a21736282b9c1bdf4534afbc05f05ff461a98", func := "quinella/quinellalaw04.OddsNets", spec := "oddsNets", unfollowed := true, recurses := true, plainKeys := false, apart := false, narrowed := true }
def OddsNetsUptoSaid : Prop := oddsNetsUptoRow.holds Try.pinned (OpenSpec.upto oddsNetsSpec)

/-- 'quinellalaw04.OddsChances', WHERE WHAT IT READS IS OF BULK AT MOST 1048576: true; the input reads as it did. -/
def oddsChancesUptoRow : OpenClaim := { program := "ytbomildlhnllhaa", sum := "e5606422e77afa3c2c2acd1d363a21736282b9c1bdf4534afbc05f05ff461a98", func := "quinella/quinellalaw04.OddsChances", spec := "oddsChances", unfollowed := true, recurses := true, plainKeys := false, apart := false, narrowed := true }
def OddsChancesUptoSaid : Prop := oddsChancesUptoRow.holds Try.pinned (OpenSpec.upto oddsChancesSpec)

/-- 'quinellalaw04.OddsEither', WHERE WHAT IT READS IS OF BULK AT MOST 1048576: true; the input reads as it did. -/
def oddsEitherUptoRow : OpenClaim := { program := "ytbomildlhnllhaa", sum := "e5606422e77afa3c2c2acd1d363a21736282b9c1bdf4534afbc05f05ff461a98", func := "quinella/quinellalaw04.OddsEither", spec := "oddsEither", unfollowed := true, recurses := true, plainKeys := false, apart := false, narrowed := true }
def OddsEitherUptoSaid : Prop := oddsEitherUptoRow.holds Try.pinned (OpenSpec.upto oddsEitherSpec)

/-- 'quinellalaw04.OddsNeighbours', WHERE WHAT IT READS IS OF BULK AT MOST 1048576: true; the input reads as it did. -/
def oddsNeighboursUptoRow : OpenClaim := { program := "ytbomildlhnllhaa", sum := "e5606422e77afa3c2c2acd1d363a21736282b9c1bdf4534afbc05f05ff461a98", func := "quinella/quinellalaw04.OddsNeighbours", spec := "oddsNeighbours", unfollowed := true, recurses := true, plainKeys := false, apart := false, narrowed := true }
def OddsNeighboursUptoSaid : Prop := oddsNeighboursUptoRow.holds Try.pinned (OpenSpec.upto oddsNeighboursSpec)

/-- 'quinellalaw04.OddsSimple', WHERE WHAT IT READS IS OF BULK AT MOST 1048576: true; the input reads as it did. -/
def oddsSimpleUptoRow : OpenClaim := { program := "ytbomildlhnllhaa", sum := "e5606422e77afa3c2c2acd1d363a21736282b9c1bdf4534afbc05f05ff461a98", func := "quinella/quinellalaw04.OddsSimple", spec := "oddsSimple", unfollowed := true, recurses := true, plainKeys := false, apart := false, narrowed := true }
def OddsSimpleUptoSaid : Prop := oddsSimpleUptoRow.holds Try.pinned (OpenSpec.upto oddsSimpleSpec)

/-- 'quinellalaw04.OddsLate', WHERE WHAT IT READS IS OF BULK AT MOST 1048576: true; the input reads as it did. -/
def oddsLateUptoRow : OpenClaim := { program := "ytbomildlhnllhaa", sum := "e5606422e77afa3c2c2acd1d363a21736282b9c1bdf4534afbc05f05ff461a98", func := "quinella/quinellalaw04.OddsLate", spec := "oddsLate", unfollowed := true, recurses := true, plainKeys := false, apart := false, narrowed := true }
def OddsLateUptoSaid : Prop := oddsLateUptoRow.holds Try.pinned (OpenSpec.upto oddsLateSpec)

/-- 'quinellalaw04.OddsKept', WHERE WHAT IT READS IS OF BULK AT MOST 1048576: true; the input reads as it did. -/
def oddsKeptUptoRow : OpenClaim := { program := "ytbomildlhnllhaa", sum := "e5606422e77afa3c2c2acd1d363a21736282b9c1bdf4534afbc05f05ff461a98", func := "quinella/quinellalaw04.OddsKept", spec := "oddsKept", unfollowed := true, recurses := true, plainKeys := false, apart := false, narrowed := true }
def OddsKeptUptoSaid : Prop := oddsKeptUptoRow.holds Try.pinned (OpenSpec.upto oddsKeptSpec)

/-- 'quinellalaw04.OddsMore', WHERE WHAT IT READS IS OF BULK AT MOST 1048576: true; the input reads as it did. -/
def oddsMoreUptoRow : OpenClaim := { program := "ytbomildlhnllhaa", sum := "e5606422e77afa3c2c2acd1d363a21736282b9c1bdf4534afbc05f05ff461a98", func := "quinella/quinellalaw04.OddsMore", spec := "oddsMore", unfollowed := true, recurses := true, plainKeys := false, apart := false, narrowed := true }
def OddsMoreUptoSaid : Prop := oddsMoreUptoRow.holds Try.pinned (OpenSpec.upto oddsMoreSpec)

/-- 'quinellalaw04.OddsTimes', WHERE WHAT IT READS IS OF BULK AT MOST 1048576: true; the input reads as it did. -/
def oddsTimesUptoRow : OpenClaim := { program := "ytbomildlhnllhaa", sum := "e5606422e77afa3c2c2acd1d363a21736282b9c1bdf4534afbc05f05ff461a98", func := "quinella/quinellalaw04.OddsTimes", spec := "oddsTimes", unfollowed := true, recurses := true, plainKeys := false, apart := false, narrowed := true }
def OddsTimesUptoSaid : Prop := oddsTimesUptoRow.holds Try.pinned (OpenSpec.upto oddsTimesSpec)

/-- 'quinellalaw04.OddsKnown', WHERE WHAT IT READS IS OF BULK AT MOST 1048576: true; the input reads as it did. -/
def oddsKnownUptoRow : OpenClaim := { program := "ytbomildlhnllhaa", sum := "e5606422e77afa3c2c2acd1d363a21736282b9c1bdf4534afbc05f05ff461a98", func := "quinella/quinellalaw04.OddsKnown", spec := "oddsKnown", unfollowed := true, recurses := true, plainKeys := false, apart := false, narrowed := true }
def OddsKnownUptoSaid : Prop := oddsKnownUptoRow.holds Try.pinned (OpenSpec.upto oddsKnownSpec)

end Rows
end Go.Proofs.Ytbomildlhnllhaa
