/-
  No cell of these rows narrows 'for every input' (looked for: loops, veiled, ifaces, maps, wideKeys, modest, calm, conditions, laid).
  DERIVED. THE GIVEN ROWS OF THIS SEAT. 14 by the template 'for every input the law returns true; each argument reads behind the call as it read before'; 0 by the template 'total and deterministic' (their statements: YtpdebflfimmnpaaTotals.lean).
  GIVEN WITH THE SEED: the statements are not yours to turn. If you find one false, say at which input.
  Laid BY PROGRAM, IN A SANDBOX (cutbox-rows.mjs): the forced cells as the released guide's own fill.sh prints them over the translation 15b4a06ceea3c41c… (all of the seat's roots in one cut). By AI agents, Wed Nov 11 2026. No macro, syntax, notation, axiom, sorry.
-/
import Derived.Test.YtpdebflfimmnpaaChecked
import GoSem.Claim
import GoSem.ClaimJoined
import GoSem.ClaimMapViews
import Derived.JoinedTies
import Derived.KernelRfl
namespace Go.Proofs.Ytpdebflfimmnpaa
/- THE CELL 'sum', in the pinned program and in every row, IS THE sha256 OF THE DUMP (.gsa) THAT YtpdebflfimmnpaaProg.lean LOADS. Nothing in Lean hashes anything: it is a label: what it is worth is what the hold of that sum in a sandbox is worth. -/
noncomputable def Try.pinned : Pinned := { name := "ytpdebflfimmnpaa", sum := "15b4a06ceea3c41c803666acbe88b78a84b2a05370722db209175950b1c4a671", checked := Try.checked }
namespace Rows
def none {H : Type} : Left H := { results := [], args := [] }

/-- 'quinellalaw07.HeatRaces': WHATEVER THE INPUT: true; the input reads as it did. -/
def heatRacesSpec : ChangeSpec := { name := "heatRaces", fn := fun _ => fun
  | [d1, d2] => { results := [.lit (.bool true)], args := [d1, d2] }
  | _ => none }
def heatRacesRow : OpenClaim := { program := "ytpdebflfimmnpaa", sum := "15b4a06ceea3c41c803666acbe88b78a84b2a05370722db209175950b1c4a671", func := "quinella/quinellalaw07.HeatRaces", spec := "heatRaces", unfollowed := true, recurses := true, plainKeys := false, apart := false }
def HeatRacesSaid : Prop := heatRacesRow.holds Try.pinned (OpenSpec.ofChange heatRacesSpec)

/-- ITS FALSE NEIGHBOUR: 'it returns false'. Refute it at one input. -/
def heatRacesWrong : ChangeSpec := { name := "heatRaces", fn := fun _ => fun
  | [d1, d2] => { results := [.lit (.bool false)], args := [d1, d2] }
  | _ => none }
def HeatRacesWrongFalsely : Prop := heatRacesRow.holds Try.pinned (OpenSpec.ofChange heatRacesWrong)

/-- 'quinellalaw07.HeatFinishes': WHATEVER THE INPUT: true; the input reads as it did. -/
def heatFinishesSpec : ChangeSpec := { name := "heatFinishes", fn := fun _ => fun
  | [d] => { results := [.lit (.bool true)], args := [d] }
  | _ => none }
def heatFinishesRow : OpenClaim := { program := "ytpdebflfimmnpaa", sum := "15b4a06ceea3c41c803666acbe88b78a84b2a05370722db209175950b1c4a671", func := "quinella/quinellalaw07.HeatFinishes", spec := "heatFinishes", unfollowed := true, recurses := true, plainKeys := false, apart := false }
def HeatFinishesSaid : Prop := heatFinishesRow.holds Try.pinned (OpenSpec.ofChange heatFinishesSpec)

/-- ITS FALSE NEIGHBOUR: 'it returns false'. Refute it at one input. -/
def heatFinishesWrong : ChangeSpec := { name := "heatFinishes", fn := fun _ => fun
  | [d] => { results := [.lit (.bool false)], args := [d] }
  | _ => none }
def HeatFinishesWrongFalsely : Prop := heatFinishesRow.holds Try.pinned (OpenSpec.ofChange heatFinishesWrong)

/-- 'quinellalaw07.HeatCircles': WHATEVER THE INPUT: true; the input reads as it did. -/
def heatCirclesSpec : ChangeSpec := { name := "heatCircles", fn := fun _ => fun
  | [d1, d2] => { results := [.lit (.bool true)], args := [d1, d2] }
  | _ => none }
def heatCirclesRow : OpenClaim := { program := "ytpdebflfimmnpaa", sum := "15b4a06ceea3c41c803666acbe88b78a84b2a05370722db209175950b1c4a671", func := "quinella/quinellalaw07.HeatCircles", spec := "heatCircles", unfollowed := true, recurses := true, plainKeys := false, apart := false }
def HeatCirclesSaid : Prop := heatCirclesRow.holds Try.pinned (OpenSpec.ofChange heatCirclesSpec)

/-- ITS FALSE NEIGHBOUR: 'it returns false'. Refute it at one input. -/
def heatCirclesWrong : ChangeSpec := { name := "heatCircles", fn := fun _ => fun
  | [d1, d2] => { results := [.lit (.bool false)], args := [d1, d2] }
  | _ => none }
def HeatCirclesWrongFalsely : Prop := heatCirclesRow.holds Try.pinned (OpenSpec.ofChange heatCirclesWrong)

/-- 'quinellalaw07.HeatKinds': WHATEVER THE INPUT: true; the input reads as it did. -/
def heatKindsSpec : ChangeSpec := { name := "heatKinds", fn := fun _ => fun
  | [d1, d2, d3, d4] => { results := [.lit (.bool true)], args := [d1, d2, d3, d4] }
  | _ => none }
def heatKindsRow : OpenClaim := { program := "ytpdebflfimmnpaa", sum := "15b4a06ceea3c41c803666acbe88b78a84b2a05370722db209175950b1c4a671", func := "quinella/quinellalaw07.HeatKinds", spec := "heatKinds", unfollowed := true, recurses := true, plainKeys := false, apart := false }
def HeatKindsSaid : Prop := heatKindsRow.holds Try.pinned (OpenSpec.ofChange heatKindsSpec)

/-- ITS FALSE NEIGHBOUR: 'it returns false'. Refute it at one input. -/
def heatKindsWrong : ChangeSpec := { name := "heatKinds", fn := fun _ => fun
  | [d1, d2, d3, d4] => { results := [.lit (.bool false)], args := [d1, d2, d3, d4] }
  | _ => none }
def HeatKindsWrongFalsely : Prop := heatKindsRow.holds Try.pinned (OpenSpec.ofChange heatKindsWrong)

/-- 'quinellalaw07.HeatBases': WHATEVER THE INPUT: true; the input reads as it did. -/
def heatBasesSpec : ChangeSpec := { name := "heatBases", fn := fun _ => fun
  | [d1, d2] => { results := [.lit (.bool true)], args := [d1, d2] }
  | _ => none }
def heatBasesRow : OpenClaim := { program := "ytpdebflfimmnpaa", sum := "15b4a06ceea3c41c803666acbe88b78a84b2a05370722db209175950b1c4a671", func := "quinella/quinellalaw07.HeatBases", spec := "heatBases", unfollowed := true, recurses := true, plainKeys := false, apart := false }
def HeatBasesSaid : Prop := heatBasesRow.holds Try.pinned (OpenSpec.ofChange heatBasesSpec)

/-- ITS FALSE NEIGHBOUR: 'it returns false'. Refute it at one input. -/
def heatBasesWrong : ChangeSpec := { name := "heatBases", fn := fun _ => fun
  | [d1, d2] => { results := [.lit (.bool false)], args := [d1, d2] }
  | _ => none }
def HeatBasesWrongFalsely : Prop := heatBasesRow.holds Try.pinned (OpenSpec.ofChange heatBasesWrong)

/-- 'quinellalaw07.HeatEither': WHATEVER THE INPUT: true; the input reads as it did. -/
def heatEitherSpec : ChangeSpec := { name := "heatEither", fn := fun _ => fun
  | [d1, d2, d3] => { results := [.lit (.bool true)], args := [d1, d2, d3] }
  | _ => none }
def heatEitherRow : OpenClaim := { program := "ytpdebflfimmnpaa", sum := "15b4a06ceea3c41c803666acbe88b78a84b2a05370722db209175950b1c4a671", func := "quinella/quinellalaw07.HeatEither", spec := "heatEither", unfollowed := true, recurses := true, plainKeys := false, apart := false }
def HeatEitherSaid : Prop := heatEitherRow.holds Try.pinned (OpenSpec.ofChange heatEitherSpec)

/-- ITS FALSE NEIGHBOUR: 'it returns false'. Refute it at one input. -/
def heatEitherWrong : ChangeSpec := { name := "heatEither", fn := fun _ => fun
  | [d1, d2, d3] => { results := [.lit (.bool false)], args := [d1, d2, d3] }
  | _ => none }
def HeatEitherWrongFalsely : Prop := heatEitherRow.holds Try.pinned (OpenSpec.ofChange heatEitherWrong)

/-- 'quinellalaw07.HeatFollows': WHATEVER THE INPUT: true; the input reads as it did. -/
def heatFollowsSpec : ChangeSpec := { name := "heatFollows", fn := fun _ => fun
  | [d1, d2, d3, d4] => { results := [.lit (.bool true)], args := [d1, d2, d3, d4] }
  | _ => none }
def heatFollowsRow : OpenClaim := { program := "ytpdebflfimmnpaa", sum := "15b4a06ceea3c41c803666acbe88b78a84b2a05370722db209175950b1c4a671", func := "quinella/quinellalaw07.HeatFollows", spec := "heatFollows", unfollowed := true, recurses := true, plainKeys := false, apart := false }
def HeatFollowsSaid : Prop := heatFollowsRow.holds Try.pinned (OpenSpec.ofChange heatFollowsSpec)

/-- ITS FALSE NEIGHBOUR: 'it returns false'. Refute it at one input. -/
def heatFollowsWrong : ChangeSpec := { name := "heatFollows", fn := fun _ => fun
  | [d1, d2, d3, d4] => { results := [.lit (.bool false)], args := [d1, d2, d3, d4] }
  | _ => none }
def HeatFollowsWrongFalsely : Prop := heatFollowsRow.holds Try.pinned (OpenSpec.ofChange heatFollowsWrong)

/-- 'quinellalaw07.HeatMore': WHATEVER THE INPUT: true; the input reads as it did. -/
def heatMoreSpec : ChangeSpec := { name := "heatMore", fn := fun _ => fun
  | [d1, d2, d3, d4] => { results := [.lit (.bool true)], args := [d1, d2, d3, d4] }
  | _ => none }
def heatMoreRow : OpenClaim := { program := "ytpdebflfimmnpaa", sum := "15b4a06ceea3c41c803666acbe88b78a84b2a05370722db209175950b1c4a671", func := "quinella/quinellalaw07.HeatMore", spec := "heatMore", unfollowed := true, recurses := true, plainKeys := false, apart := false }
def HeatMoreSaid : Prop := heatMoreRow.holds Try.pinned (OpenSpec.ofChange heatMoreSpec)

/-- ITS FALSE NEIGHBOUR: 'it returns false'. Refute it at one input. -/
def heatMoreWrong : ChangeSpec := { name := "heatMore", fn := fun _ => fun
  | [d1, d2, d3, d4] => { results := [.lit (.bool false)], args := [d1, d2, d3, d4] }
  | _ => none }
def HeatMoreWrongFalsely : Prop := heatMoreRow.holds Try.pinned (OpenSpec.ofChange heatMoreWrong)

/-- 'quinellalaw07.HeatPlaces': WHATEVER THE INPUT: true; the input reads as it did. -/
def heatPlacesSpec : ChangeSpec := { name := "heatPlaces", fn := fun _ => fun
  | [d1, d2, d3, d4, d5] => { results := [.lit (.bool true)], args := [d1, d2, d3, d4, d5] }
  | _ => none }
def heatPlacesRow : OpenClaim := { program := "ytpdebflfimmnpaa", sum := "15b4a06ceea3c41c803666acbe88b78a84b2a05370722db209175950b1c4a671", func := "quinella/quinellalaw07.HeatPlaces", spec := "heatPlaces", unfollowed := true, recurses := true, plainKeys := false, apart := false }
def HeatPlacesSaid : Prop := heatPlacesRow.holds Try.pinned (OpenSpec.ofChange heatPlacesSpec)

/-- ITS FALSE NEIGHBOUR: 'it returns false'. Refute it at one input. -/
def heatPlacesWrong : ChangeSpec := { name := "heatPlaces", fn := fun _ => fun
  | [d1, d2, d3, d4, d5] => { results := [.lit (.bool false)], args := [d1, d2, d3, d4, d5] }
  | _ => none }
def HeatPlacesWrongFalsely : Prop := heatPlacesRow.holds Try.pinned (OpenSpec.ofChange heatPlacesWrong)

/-- 'quinellalaw07.HeatBased': WHATEVER THE INPUT: true; the input reads as it did. -/
def heatBasedSpec : ChangeSpec := { name := "heatBased", fn := fun _ => fun
  | [d1, d2, d3] => { results := [.lit (.bool true)], args := [d1, d2, d3] }
  | _ => none }
def heatBasedRow : OpenClaim := { program := "ytpdebflfimmnpaa", sum := "15b4a06ceea3c41c803666acbe88b78a84b2a05370722db209175950b1c4a671", func := "quinella/quinellalaw07.HeatBased", spec := "heatBased", unfollowed := true, recurses := true, plainKeys := false, apart := false }
def HeatBasedSaid : Prop := heatBasedRow.holds Try.pinned (OpenSpec.ofChange heatBasedSpec)

/-- ITS FALSE NEIGHBOUR: 'it returns false'. Refute it at one input. -/
def heatBasedWrong : ChangeSpec := { name := "heatBased", fn := fun _ => fun
  | [d1, d2, d3] => { results := [.lit (.bool false)], args := [d1, d2, d3] }
  | _ => none }
def HeatBasedWrongFalsely : Prop := heatBasedRow.holds Try.pinned (OpenSpec.ofChange heatBasedWrong)

/-- 'quinellalaw07.HeatTurned': WHATEVER THE INPUT: true; the input reads as it did. -/
def heatTurnedSpec : ChangeSpec := { name := "heatTurned", fn := fun _ => fun
  | [d1, d2, d3, d4] => { results := [.lit (.bool true)], args := [d1, d2, d3, d4] }
  | _ => none }
def heatTurnedRow : OpenClaim := { program := "ytpdebflfimmnpaa", sum := "15b4a06ceea3c41c803666acbe88b78a84b2a05370722db209175950b1c4a671", func := "quinella/quinellalaw07.HeatTurned", spec := "heatTurned", unfollowed := true, recurses := true, plainKeys := false, apart := false }
def HeatTurnedSaid : Prop := heatTurnedRow.holds Try.pinned (OpenSpec.ofChange heatTurnedSpec)

/-- ITS FALSE NEIGHBOUR: 'it returns false'. Refute it at one input. -/
def heatTurnedWrong : ChangeSpec := { name := "heatTurned", fn := fun _ => fun
  | [d1, d2, d3, d4] => { results := [.lit (.bool false)], args := [d1, d2, d3, d4] }
  | _ => none }
def HeatTurnedWrongFalsely : Prop := heatTurnedRow.holds Try.pinned (OpenSpec.ofChange heatTurnedWrong)

/-- 'quinellalaw07.HeatNamed': WHATEVER THE INPUT: true; the input reads as it did. -/
def heatNamedSpec : ChangeSpec := { name := "heatNamed", fn := fun _ => fun
  | [d1, d2, d3, d4] => { results := [.lit (.bool true)], args := [d1, d2, d3, d4] }
  | _ => none }
def heatNamedRow : OpenClaim := { program := "ytpdebflfimmnpaa", sum := "15b4a06ceea3c41c803666acbe88b78a84b2a05370722db209175950b1c4a671", func := "quinella/quinellalaw07.HeatNamed", spec := "heatNamed", unfollowed := true, recurses := true, plainKeys := false, apart := false }
def HeatNamedSaid : Prop := heatNamedRow.holds Try.pinned (OpenSpec.ofChange heatNamedSpec)

/-- ITS FALSE NEIGHBOUR: 'it returns false'. Refute it at one input. -/
def heatNamedWrong : ChangeSpec := { name := "heatNamed", fn := fun _ => fun
  | [d1, d2, d3, d4] => { results := [.lit (.bool false)], args := [d1, d2, d3, d4] }
  | _ => none }
def HeatNamedWrongFalsely : Prop := heatNamedRow.holds Try.pinned (OpenSpec.ofChange heatNamedWrong)

/-- 'quinellalaw07.HeatSilent': WHATEVER THE INPUT: true; the input reads as it did. -/
def heatSilentSpec : ChangeSpec := { name := "heatSilent", fn := fun _ => fun
  | [d1, d2] => { results := [.lit (.bool true)], args := [d1, d2] }
  | _ => none }
def heatSilentRow : OpenClaim := { program := "ytpdebflfimmnpaa", sum := "15b4a06ceea3c41c803666acbe88b78a84b2a05370722db209175950b1c4a671", func := "quinella/quinellalaw07.HeatSilent", spec := "heatSilent", unfollowed := true, recurses := true, plainKeys := false, apart := false }
def HeatSilentSaid : Prop := heatSilentRow.holds Try.pinned (OpenSpec.ofChange heatSilentSpec)

/-- ITS FALSE NEIGHBOUR: 'it returns false'. Refute it at one input. -/
def heatSilentWrong : ChangeSpec := { name := "heatSilent", fn := fun _ => fun
  | [d1, d2] => { results := [.lit (.bool false)], args := [d1, d2] }
  | _ => none }
def HeatSilentWrongFalsely : Prop := heatSilentRow.holds Try.pinned (OpenSpec.ofChange heatSilentWrong)

/-- 'quinellalaw07.HeatKnown': WHATEVER THE INPUT: true; the input reads as it did. -/
def heatKnownSpec : ChangeSpec := { name := "heatKnown", fn := fun _ => fun
  | [] => { results := [.lit (.bool true)], args := [] }
  | _ => none }
def heatKnownRow : OpenClaim := { program := "ytpdebflfimmnpaa", sum := "15b4a06ceea3c41c803666acbe88b78a84b2a05370722db209175950b1c4a671", func := "quinella/quinellalaw07.HeatKnown", spec := "heatKnown", unfollowed := true, recurses := true, plainKeys := false, apart := false }
def HeatKnownSaid : Prop := heatKnownRow.holds Try.pinned (OpenSpec.ofChange heatKnownSpec)

/-- ITS FALSE NEIGHBOUR: 'it returns false'. Refute it at one input. -/
def heatKnownWrong : ChangeSpec := { name := "heatKnown", fn := fun _ => fun
  | [] => { results := [.lit (.bool false)], args := [] }
  | _ => none }
def HeatKnownWrongFalsely : Prop := heatKnownRow.holds Try.pinned (OpenSpec.ofChange heatKnownWrong)

/- THE SECOND FORM. 'bulk': how many values and letters a reading holds, each counted each time it is reached (what is shared counts as often as it is met; a slice's spare places count too). A statement '..UptoSaid' is the law's where the arguments, and the package variables that the reading takes, are together of bulk at most 1048576: NARROWER than '..Said'. Prove '..Said' where nothing that the law and all that it calls make is longer than what came in: it says more and counts as full. Else prove '..UptoSaid'. A law counts once. -/
mutual
def uptoBulk {H : Type} : DataW H → Nat
  | .lit (.string bytes) => bytes.length + 1
  | .lit _ => 1
  | .nil => 1
  | .ptr d => uptoBulk d + 1
  | .slice elems spare => uptoBulkAll elems + uptoBulkAll spare + 1
  | .agg parts => uptoBulkAll parts + 1
  | .iface _ d => uptoBulk d + 1
  | .map entries => uptoBulkEntries entries + 1
  | .held _ => 1
def uptoBulkAll {H : Type} : List (DataW H) → Nat
  | [] => 0
  | d :: r => uptoBulk d + uptoBulkAll r
def uptoBulkEntries {H : Type} : List (Lit × DataW H) → Nat
  | [] => 0
  | x :: r => uptoBulkEntry x + uptoBulkEntries r
def uptoBulkEntry {H : Type} : Lit × DataW H → Nat
  | (.string bytes, d) => bytes.length + uptoBulk d + 1
  | (_, d) => uptoBulk d + 1
 end
def uptoSmall : (H : Type) → List (DataW H) → Bool := fun _ ds => decide (uptoBulkAll ds ≤ 1048576)
def OpenSpec.upto (s : _root_.Go.ChangeSpec) : _root_.Go.OpenSpec := { _root_.Go.OpenSpec.ofChange s with cond := some uptoSmall }

/-- 'quinellalaw07.HeatRaces', WHERE WHAT IT READS IS OF BULK AT MOST 1048576: true; the input reads as it did. -/
def heatRacesUptoRow : OpenClaim := { program := "ytpdebflfimmnpaa", sum := "15b4a06ceea3c41c803666acbe88b78a84b2a05370722db209175950b1c4a671", func := "quinella/quinellalaw07.HeatRaces", spec := "heatRaces", unfollowed := true, recurses := true, plainKeys := false, apart := false, narrowed := true }
def HeatRacesUptoSaid : Prop := heatRacesUptoRow.holds Try.pinned (OpenSpec.upto heatRacesSpec)

/-- 'quinellalaw07.HeatFinishes', WHERE WHAT IT READS IS OF BULK AT MOST 1048576: true; the input reads as it did. -/
def heatFinishesUptoRow : OpenClaim := { program := "ytpdebflfimmnpaa", sum := "15b4a06ceea3c41c803666acbe88b78a84b2a05370722db209175950b1c4a671", func := "quinella/quinellalaw07.HeatFinishes", spec := "heatFinishes", unfollowed := true, recurses := true, plainKeys := false, apart := false, narrowed := true }
def HeatFinishesUptoSaid : Prop := heatFinishesUptoRow.holds Try.pinned (OpenSpec.upto heatFinishesSpec)

/-- 'quinellalaw07.HeatCircles', WHERE WHAT IT READS IS OF BULK AT MOST 1048576: true; the input reads as it did. -/
def heatCirclesUptoRow : OpenClaim := { program := "ytpdebflfimmnpaa", sum := "15b4a06ceea3c41c803666acbe88b78a84b2a05370722db209175950b1c4a671", func := "quinella/quinellalaw07.HeatCircles", spec := "heatCircles", unfollowed := true, recurses := true, plainKeys := false, apart := false, narrowed := true }
def HeatCirclesUptoSaid : Prop := heatCirclesUptoRow.holds Try.pinned (OpenSpec.upto heatCirclesSpec)

/-- 'quinellalaw07.HeatKinds', WHERE WHAT IT READS IS OF BULK AT MOST 1048576: true; the input reads as it did. -/
def heatKindsUptoRow : OpenClaim := { program := "ytpdebflfimmnpaa", sum := "15b4a06ceea3c41c803666acbe88b78a84b2a05370722db209175950b1c4a671", func := "quinella/quinellalaw07.HeatKinds", spec := "heatKinds", unfollowed := true, recurses := true, plainKeys := false, apart := false, narrowed := true }
def HeatKindsUptoSaid : Prop := heatKindsUptoRow.holds Try.pinned (OpenSpec.upto heatKindsSpec)

/-- 'quinellalaw07.HeatBases', WHERE WHAT IT READS IS OF BULK AT MOST 1048576: true; the input reads as it did. -/
def heatBasesUptoRow : OpenClaim := { program := "ytpdebflfimmnpaa", sum := "15b4a06ceea3c41c803666acbe88b78a84b2a05370722db209175950b1c4a671", func := "quinella/quinellalaw07.HeatBases", spec := "heatBases", unfollowed := true, recurses := true, plainKeys := false, apart := false, narrowed := true }
def HeatBasesUptoSaid : Prop := heatBasesUptoRow.holds Try.pinned (OpenSpec.upto heatBasesSpec)

/-- 'quinellalaw07.HeatEither', WHERE WHAT IT READS IS OF BULK AT MOST 1048576: true; the input reads as it did. -/
def heatEitherUptoRow : OpenClaim := { program := "ytpdebflfimmnpaa", sum := "15b4a06ceea3c41c803666acbe88b78a84b2a05370722db209175950b1c4a671", func := "quinella/quinellalaw07.HeatEither", spec := "heatEither", unfollowed := true, recurses := true, plainKeys := false, apart := false, narrowed := true }
def HeatEitherUptoSaid : Prop := heatEitherUptoRow.holds Try.pinned (OpenSpec.upto heatEitherSpec)

/-- 'quinellalaw07.HeatFollows', WHERE WHAT IT READS IS OF BULK AT MOST 1048576: true; the input reads as it did. -/
def heatFollowsUptoRow : OpenClaim := { program := "ytpdebflfimmnpaa", sum := "15b4a06ceea3c41c803666acbe88b78a84b2a05370722db209175950b1c4a671", func := "quinella/quinellalaw07.HeatFollows", spec := "heatFollows", unfollowed := true, recurses := true, plainKeys := false, apart := false, narrowed := true }
def HeatFollowsUptoSaid : Prop := heatFollowsUptoRow.holds Try.pinned (OpenSpec.upto heatFollowsSpec)

/-- 'quinellalaw07.HeatMore', WHERE WHAT IT READS IS OF BULK AT MOST 1048576: true; the input reads as it did. -/
def heatMoreUptoRow : OpenClaim := { program := "ytpdebflfimmnpaa", sum := "15b4a06ceea3c41c803666acbe88b78a84b2a05370722db209175950b1c4a671", func := "quinella/quinellalaw07.HeatMore", spec := "heatMore", unfollowed := true, recurses := true, plainKeys := false, apart := false, narrowed := true }
def HeatMoreUptoSaid : Prop := heatMoreUptoRow.holds Try.pinned (OpenSpec.upto heatMoreSpec)

/-- 'quinellalaw07.HeatPlaces', WHERE WHAT IT READS IS OF BULK AT MOST 1048576: true; the input reads as it did. -/
def heatPlacesUptoRow : OpenClaim := { program := "ytpdebflfimmnpaa", sum := "15b4a06ceea3c41c803666acbe88b78a84b2a05370722db209175950b1c4a671", func := "quinella/quinellalaw07.HeatPlaces", spec := "heatPlaces", unfollowed := true, recurses := true, plainKeys := false, apart := false, narrowed := true }
def HeatPlacesUptoSaid : Prop := heatPlacesUptoRow.holds Try.pinned (OpenSpec.upto heatPlacesSpec)

/-- 'quinellalaw07.HeatBased', WHERE WHAT IT READS IS OF BULK AT MOST 1048576: true; the input reads as it did. -/
def heatBasedUptoRow : OpenClaim := { program := "ytpdebflfimmnpaa", sum := "15b4a06ceea3c41c803666acbe88b78a84b2a05370722db209175950b1c4a671", func := "quinella/quinellalaw07.HeatBased", spec := "heatBased", unfollowed := true, recurses := true, plainKeys := false, apart := false, narrowed := true }
def HeatBasedUptoSaid : Prop := heatBasedUptoRow.holds Try.pinned (OpenSpec.upto heatBasedSpec)

/-- 'quinellalaw07.HeatTurned', WHERE WHAT IT READS IS OF BULK AT MOST 1048576: true; the input reads as it did. -/
def heatTurnedUptoRow : OpenClaim := { program := "ytpdebflfimmnpaa", sum := "15b4a06ceea3c41c803666acbe88b78a84b2a05370722db209175950b1c4a671", func := "quinella/quinellalaw07.HeatTurned", spec := "heatTurned", unfollowed := true, recurses := true, plainKeys := false, apart := false, narrowed := true }
def HeatTurnedUptoSaid : Prop := heatTurnedUptoRow.holds Try.pinned (OpenSpec.upto heatTurnedSpec)

/-- 'quinellalaw07.HeatNamed', WHERE WHAT IT READS IS OF BULK AT MOST 1048576: true; the input reads as it did. -/
def heatNamedUptoRow : OpenClaim := { program := "ytpdebflfimmnpaa", sum := "15b4a06ceea3c41c803666acbe88b78a84b2a05370722db209175950b1c4a671", func := "quinella/quinellalaw07.HeatNamed", spec := "heatNamed", unfollowed := true, recurses := true, plainKeys := false, apart := false, narrowed := true }
def HeatNamedUptoSaid : Prop := heatNamedUptoRow.holds Try.pinned (OpenSpec.upto heatNamedSpec)

/-- 'quinellalaw07.HeatSilent', WHERE WHAT IT READS IS OF BULK AT MOST 1048576: true; the input reads as it did. -/
def heatSilentUptoRow : OpenClaim := { program := "ytpdebflfimmnpaa", sum := "15b4a06ceea3c41c803666acbe88b78a84b2a05370722db209175950b1c4a671", func := "quinella/quinellalaw07.HeatSilent", spec := "heatSilent", unfollowed := true, recurses := true, plainKeys := false, apart := false, narrowed := true }
def HeatSilentUptoSaid : Prop := heatSilentUptoRow.holds Try.pinned (OpenSpec.upto heatSilentSpec)

/-- 'quinellalaw07.HeatKnown', WHERE WHAT IT READS IS OF BULK AT MOST 1048576: true; the input reads as it did. -/
def heatKnownUptoRow : OpenClaim := { program := "ytpdebflfimmnpaa", sum := "15b4a06ceea3c41c803666acbe88b78a84b2a05370722db209175950b1c4a671", func := "quinella/quinellalaw07.HeatKnown", spec := "heatKnown", unfollowed := true, recurses := true, plainKeys := false, apart := false, narrowed := true }
def HeatKnownUptoSaid : Prop := heatKnownUptoRow.holds Try.pinned (OpenSpec.upto heatKnownSpec)

end Rows
end Go.Proofs.Ytpdebflfimmnpaa
