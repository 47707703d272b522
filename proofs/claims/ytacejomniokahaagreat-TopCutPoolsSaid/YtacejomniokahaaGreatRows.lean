/-
  No cell of these rows narrows 'for every input' (looked for: loops, veiled, ifaces, maps, wideKeys, modest, calm, conditions, laid).
  DERIVED. THE GIVEN ROWS OF THIS SEAT. 8 by the template 'for every input the law returns true; each argument reads behind the call as it read before'; 0 by the template 'total and deterministic' (their statements: YtacejomniokahaaGreatTotals.lean).
  GIVEN WITH THE SEED: the statements are not yours to turn. If you find one false, say at which input.
  Laid BY PROGRAM, IN A SANDBOX (cutbox-rows.mjs): the forced cells as the released guide's own fill.sh prints them over the translation 48bb0857ceff0334… (all of the seat's roots in one cut). By AI agents, Wed Nov 11 2026. No macro, syntax, notation, axiom, sorry.
-/
import Derived.Test.YtacejomniokahaaGreatChecked
import GoSem.Claim
import GoSem.ClaimJoined
import GoSem.ClaimMapViews
import Derived.JoinedTies
import Derived.KernelRfl
namespace Go.Proofs.YtacejomniokahaaGreat
/- THE CELL 'sum', in the pinned program and in every row, IS THE sha256 OF THE DUMP (.gsa) THAT YtacejomniokahaaGreatProg.lean LOADS. Nothing in Lean hashes anything: it is a label: what it is worth is what the hold of that sum in a sandbox is worth. -/
noncomputable def Tryz.pinned : Pinned := { name := "ytacejomniokahaagreat", sum := "48bb0857ceff0334d8a448fe6f7c69406c58b28f5b545bff6ed96ba5a7a83cc6", checked := Tryz.checked }
namespace Rows
def none {H : Type} : Left H := { results := [], args := [] }

/-- 'quinellatop.TopTurnedLag': WHATEVER THE INPUT: true; the input reads as it did. -/
def topTurnedLagSpec : ChangeSpec := { name := "topTurnedLag", fn := fun _ => fun
  | [d1, d2, d3] => { results := [.lit (.bool true)], args := [d1, d2, d3] }
  | _ => none }
def topTurnedLagRow : OpenClaim := { program := "ytacejomniokahaagreat", sum := "48bb0857ceff0334d8a448fe6f7c69406c58b28f5b545bff6ed96ba5a7a83cc6", func := "quinella/quinellatop.TopTurnedLag", spec := "topTurnedLag", unfollowed := true, recurses := true, plainKeys := false, apart := false }
def TopTurnedLagSaid : Prop := topTurnedLagRow.holds Tryz.pinned (OpenSpec.ofChange topTurnedLagSpec)

/-- ITS FALSE NEIGHBOUR: 'it returns false'. Refute it at one input. -/
def topTurnedLagWrong : ChangeSpec := { name := "topTurnedLag", fn := fun _ => fun
  | [d1, d2, d3] => { results := [.lit (.bool false)], args := [d1, d2, d3] }
  | _ => none }
def TopTurnedLagWrongFalsely : Prop := topTurnedLagRow.holds Tryz.pinned (OpenSpec.ofChange topTurnedLagWrong)

/-- 'quinellatop.TopPulledPools': WHATEVER THE INPUT: true; the input reads as it did. -/
def topPulledPoolsSpec : ChangeSpec := { name := "topPulledPools", fn := fun _ => fun
  | [d1, d2, d3] => { results := [.lit (.bool true)], args := [d1, d2, d3] }
  | _ => none }
def topPulledPoolsRow : OpenClaim := { program := "ytacejomniokahaagreat", sum := "48bb0857ceff0334d8a448fe6f7c69406c58b28f5b545bff6ed96ba5a7a83cc6", func := "quinella/quinellatop.TopPulledPools", spec := "topPulledPools", unfollowed := true, recurses := true, plainKeys := false, apart := false }
def TopPulledPoolsSaid : Prop := topPulledPoolsRow.holds Tryz.pinned (OpenSpec.ofChange topPulledPoolsSpec)

/-- ITS FALSE NEIGHBOUR: 'it returns false'. Refute it at one input. -/
def topPulledPoolsWrong : ChangeSpec := { name := "topPulledPools", fn := fun _ => fun
  | [d1, d2, d3] => { results := [.lit (.bool false)], args := [d1, d2, d3] }
  | _ => none }
def TopPulledPoolsWrongFalsely : Prop := topPulledPoolsRow.holds Tryz.pinned (OpenSpec.ofChange topPulledPoolsWrong)

/-- 'quinellatop.TopPooledOdds': WHATEVER THE INPUT: true; the input reads as it did. -/
def topPooledOddsSpec : ChangeSpec := { name := "topPooledOdds", fn := fun _ => fun
  | [d1, d2] => { results := [.lit (.bool true)], args := [d1, d2] }
  | _ => none }
def topPooledOddsRow : OpenClaim := { program := "ytacejomniokahaagreat", sum := "48bb0857ceff0334d8a448fe6f7c69406c58b28f5b545bff6ed96ba5a7a83cc6", func := "quinella/quinellatop.TopPooledOdds", spec := "topPooledOdds", unfollowed := true, recurses := true, plainKeys := false, apart := false }
def TopPooledOddsSaid : Prop := topPooledOddsRow.holds Tryz.pinned (OpenSpec.ofChange topPooledOddsSpec)

/-- ITS FALSE NEIGHBOUR: 'it returns false'. Refute it at one input. -/
def topPooledOddsWrong : ChangeSpec := { name := "topPooledOdds", fn := fun _ => fun
  | [d1, d2] => { results := [.lit (.bool false)], args := [d1, d2] }
  | _ => none }
def TopPooledOddsWrongFalsely : Prop := topPooledOddsRow.holds Tryz.pinned (OpenSpec.ofChange topPooledOddsWrong)

/-- 'quinellatop.TopFairOdds': WHATEVER THE INPUT: true; the input reads as it did. -/
def topFairOddsSpec : ChangeSpec := { name := "topFairOdds", fn := fun _ => fun
  | [d1, d2] => { results := [.lit (.bool true)], args := [d1, d2] }
  | _ => none }
def topFairOddsRow : OpenClaim := { program := "ytacejomniokahaagreat", sum := "48bb0857ceff0334d8a448fe6f7c69406c58b28f5b545bff6ed96ba5a7a83cc6", func := "quinella/quinellatop.TopFairOdds", spec := "topFairOdds", unfollowed := true, recurses := true, plainKeys := false, apart := false }
def TopFairOddsSaid : Prop := topFairOddsRow.holds Tryz.pinned (OpenSpec.ofChange topFairOddsSpec)

/-- ITS FALSE NEIGHBOUR: 'it returns false'. Refute it at one input. -/
def topFairOddsWrong : ChangeSpec := { name := "topFairOdds", fn := fun _ => fun
  | [d1, d2] => { results := [.lit (.bool false)], args := [d1, d2] }
  | _ => none }
def TopFairOddsWrongFalsely : Prop := topFairOddsRow.holds Tryz.pinned (OpenSpec.ofChange topFairOddsWrong)

/-- 'quinellatop.TopKeptLag': WHATEVER THE INPUT: true; the input reads as it did. -/
def topKeptLagSpec : ChangeSpec := { name := "topKeptLag", fn := fun _ => fun
  | [d1, d2] => { results := [.lit (.bool true)], args := [d1, d2] }
  | _ => none }
def topKeptLagRow : OpenClaim := { program := "ytacejomniokahaagreat", sum := "48bb0857ceff0334d8a448fe6f7c69406c58b28f5b545bff6ed96ba5a7a83cc6", func := "quinella/quinellatop.TopKeptLag", spec := "topKeptLag", unfollowed := true, recurses := true, plainKeys := false, apart := false }
def TopKeptLagSaid : Prop := topKeptLagRow.holds Tryz.pinned (OpenSpec.ofChange topKeptLagSpec)

/-- ITS FALSE NEIGHBOUR: 'it returns false'. Refute it at one input. -/
def topKeptLagWrong : ChangeSpec := { name := "topKeptLag", fn := fun _ => fun
  | [d1, d2] => { results := [.lit (.bool false)], args := [d1, d2] }
  | _ => none }
def TopKeptLagWrongFalsely : Prop := topKeptLagRow.holds Tryz.pinned (OpenSpec.ofChange topKeptLagWrong)

/-- 'quinellatop.TopCutPools': WHATEVER THE INPUT: true; the input reads as it did. -/
def topCutPoolsSpec : ChangeSpec := { name := "topCutPools", fn := fun _ => fun
  | [d1, d2, d3] => { results := [.lit (.bool true)], args := [d1, d2, d3] }
  | _ => none }
def topCutPoolsRow : OpenClaim := { program := "ytacejomniokahaagreat", sum := "48bb0857ceff0334d8a448fe6f7c69406c58b28f5b545bff6ed96ba5a7a83cc6", func := "quinella/quinellatop.TopCutPools", spec := "topCutPools", unfollowed := true, recurses := true, plainKeys := false, apart := false }
def TopCutPoolsSaid : Prop := topCutPoolsRow.holds Tryz.pinned (OpenSpec.ofChange topCutPoolsSpec)

/-- ITS FALSE NEIGHBOUR: 'it returns false'. Refute it at one input. -/
def topCutPoolsWrong : ChangeSpec := { name := "topCutPools", fn := fun _ => fun
  | [d1, d2, d3] => { results := [.lit (.bool false)], args := [d1, d2, d3] }
  | _ => none }
def TopCutPoolsWrongFalsely : Prop := topCutPoolsRow.holds Tryz.pinned (OpenSpec.ofChange topCutPoolsWrong)

/-- 'quinellatop.TopCutTickets': WHATEVER THE INPUT: true; the input reads as it did. -/
def topCutTicketsSpec : ChangeSpec := { name := "topCutTickets", fn := fun _ => fun
  | [d1, d2] => { results := [.lit (.bool true)], args := [d1, d2] }
  | _ => none }
def topCutTicketsRow : OpenClaim := { program := "ytacejomniokahaagreat", sum := "48bb0857ceff0334d8a448fe6f7c69406c58b28f5b545bff6ed96ba5a7a83cc6", func := "quinella/quinellatop.TopCutTickets", spec := "topCutTickets", unfollowed := true, recurses := true, plainKeys := false, apart := false }
def TopCutTicketsSaid : Prop := topCutTicketsRow.holds Tryz.pinned (OpenSpec.ofChange topCutTicketsSpec)

/-- ITS FALSE NEIGHBOUR: 'it returns false'. Refute it at one input. -/
def topCutTicketsWrong : ChangeSpec := { name := "topCutTickets", fn := fun _ => fun
  | [d1, d2] => { results := [.lit (.bool false)], args := [d1, d2] }
  | _ => none }
def TopCutTicketsWrongFalsely : Prop := topCutTicketsRow.holds Tryz.pinned (OpenSpec.ofChange topCutTicketsWrong)

/-- 'quinellatop.TopClaimedPools': WHATEVER THE INPUT: true; the input reads as it did. -/
def topClaimedPoolsSpec : ChangeSpec := { name := "topClaimedPools", fn := fun _ => fun
  | [d1, d2, d3, d4, d5] => { results := [.lit (.bool true)], args := [d1, d2, d3, d4, d5] }
  | _ => none }
def topClaimedPoolsRow : OpenClaim := { program := "ytacejomniokahaagreat", sum := "48bb0857ceff0334d8a448fe6f7c69406c58b28f5b545bff6ed96ba5a7a83cc6", func := "quinella/quinellatop.TopClaimedPools", spec := "topClaimedPools", unfollowed := true, recurses := true, plainKeys := false, apart := false }
def TopClaimedPoolsSaid : Prop := topClaimedPoolsRow.holds Tryz.pinned (OpenSpec.ofChange topClaimedPoolsSpec)

/-- ITS FALSE NEIGHBOUR: 'it returns false'. Refute it at one input. -/
def topClaimedPoolsWrong : ChangeSpec := { name := "topClaimedPools", fn := fun _ => fun
  | [d1, d2, d3, d4, d5] => { results := [.lit (.bool false)], args := [d1, d2, d3, d4, d5] }
  | _ => none }
def TopClaimedPoolsWrongFalsely : Prop := topClaimedPoolsRow.holds Tryz.pinned (OpenSpec.ofChange topClaimedPoolsWrong)

/- THE SECOND FORM. 'bulk': how many values and letters a reading holds, each counted each time it is reached (what is shared counts as often as it is met; a slice's spare places count too). A statement '..UptoSaid' is the law's where the arguments, and the package variables that the reading takes, are together of bulk at most 1048576: NARROWER than '..Said'. Prove '..Said' where nothing that the law and all that it calls make is longer than what came in: it says more and counts as full. Else prove '..UptoSaid'. A law counts once. -/
mutual
def uptoBulk {H : Type} : DataW H → Nat
  | .lit (.string bytes) => bytes.length + 1
  | .lit _ => 1
  | .nil => 1
  | .ptr d => uptoBulk d + 1
  | .slice elems spare => uptoBulkAll elems + uptoBulkAll spare + 1
  | .agg parts => uptoBulkAll parts + 1
  | .iface _ d => uptoBulk d + 1
  | .map entries => uptoBulkEntries entries + 1
  | .held _ => 1
def uptoBulkAll {H : Type} : List (DataW H) → Nat
  | [] => 0
  | d :: r => uptoBulk d + uptoBulkAll r
def uptoBulkEntries {H : Type} : List (Lit × DataW H) → Nat
  | [] => 0
  | x :: r => uptoBulkEntry x + uptoBulkEntries r
def uptoBulkEntry {H : Type} : Lit × DataW H → Nat
  | (.string bytes, d) => bytes.length + uptoBulk d + 1
  | (_, d) => uptoBulk d + 1
 end
def uptoSmall : (H : Type) → List (DataW H) → Bool := fun _ ds => decide (uptoBulkAll ds ≤ 1048576)
def OpenSpec.upto (s : _root_.Go.ChangeSpec) : _root_.Go.OpenSpec := { _root_.Go.OpenSpec.ofChange s with cond := some uptoSmall }

/-- 'quinellatop.TopTurnedLag', WHERE WHAT IT READS IS OF BULK AT MOST 1048576: true; the input reads as it did. -/
def topTurnedLagUptoRow : OpenClaim := { program := "ytacejomniokahaagreat", sum := "48bb0857ceff0334d8a448fe6f7c69406c58b28f5b545bff6ed96ba5a7a83cc6", func := "quinella/quinellatop.TopTurnedLag", spec := "topTurnedLag", unfollowed := true, recurses := true, plainKeys := false, apart := false, narrowed := true }
def TopTurnedLagUptoSaid : Prop := topTurnedLagUptoRow.holds Tryz.pinned (OpenSpec.upto topTurnedLagSpec)

/-- 'quinellatop.TopPulledPools', WHERE WHAT IT READS IS OF BULK AT MOST 1048576: true; the input reads as it did. -/
def topPulledPoolsUptoRow : OpenClaim := { program := "ytacejomniokahaagreat", sum := "48bb0857ceff0334d8a448fe6f7c69406c58b28f5b545bff6ed96ba5a7a83cc6", func := "quinella/quinellatop.TopPulledPools", spec := "topPulledPools", unfollowed := true, recurses := true, plainKeys := false, apart := false, narrowed := true }
def TopPulledPoolsUptoSaid : Prop := topPulledPoolsUptoRow.holds Tryz.pinned (OpenSpec.upto topPulledPoolsSpec)

/-- 'quinellatop.TopPooledOdds', WHERE WHAT IT READS IS OF BULK AT MOST 1048576: true; the input reads as it did. -/
def topPooledOddsUptoRow : OpenClaim := { program := "ytacejomniokahaagreat", sum := "48bb0857ceff0334d8a448fe6f7c69406c58b28f5b545bff6ed96ba5a7a83cc6", func := "quinella/quinellatop.TopPooledOdds", spec := "topPooledOdds", unfollowed := true, recurses := true, plainKeys := false, apart := false, narrowed := true }
def TopPooledOddsUptoSaid : Prop := topPooledOddsUptoRow.holds Tryz.pinned (OpenSpec.upto topPooledOddsSpec)

/-- 'quinellatop.TopFairOdds', WHERE WHAT IT READS IS OF BULK AT MOST 1048576: true; the input reads as it did. -/
def topFairOddsUptoRow : OpenClaim := { program := "ytacejomniokahaagreat", sum := "48bb0857ceff0334d8a448fe6f7c69406c58b28f5b545bff6ed96ba5a7a83cc6", func := "quinella/quinellatop.TopFairOdds", spec := "topFairOdds", unfollowed := true, recurses := true, plainKeys := false, apart := false, narrowed := true }
def TopFairOddsUptoSaid : Prop := topFairOddsUptoRow.holds Tryz.pinned (OpenSpec.upto topFairOddsSpec)

/-- 'quinellatop.TopKeptLag', WHERE WHAT IT READS IS OF BULK AT MOST 1048576: true; the input reads as it did. -/
def topKeptLagUptoRow : OpenClaim := { program := "ytacejomniokahaagreat", sum := "48bb0857ceff0334d8a448fe6f7c69406c58b28f5b545bff6ed96ba5a7a83cc6", func := "quinella/quinellatop.TopKeptLag", spec := "topKeptLag", unfollowed := true, recurses := true, plainKeys := false, apart := false, narrowed := true }
def TopKeptLagUptoSaid : Prop := topKeptLagUptoRow.holds Tryz.pinned (OpenSpec.upto topKeptLagSpec)

/-- 'quinellatop.TopCutPools', WHERE WHAT IT READS IS OF BULK AT MOST 1048576: true; the input reads as it did. -/
def topCutPoolsUptoRow : OpenClaim := { program := "ytacejomniokahaagreat", sum := "48bb0857ceff0334d8a448fe6f7c69406c58b28f5b545bff6ed96ba5a7a83cc6", func := "quinella/quinellatop.TopCutPools", spec := "topCutPools", unfollowed := true, recurses := true, plainKeys := false, apart := false, narrowed := true }
def TopCutPoolsUptoSaid : Prop := topCutPoolsUptoRow.holds Tryz.pinned (OpenSpec.upto topCutPoolsSpec)

/-- 'quinellatop.TopCutTickets', WHERE WHAT IT READS IS OF BULK AT MOST 1048576: true; the input reads as it did. -/
def topCutTicketsUptoRow : OpenClaim := { program := "ytacejomniokahaagreat", sum := "48bb0857ceff0334d8a448fe6f7c69406c58b28f5b545bff6ed96ba5a7a83cc6", func := "quinella/quinellatop.TopCutTickets", spec := "topCutTickets", unfollowed := true, recurses := true, plainKeys := false, apart := false, narrowed := true }
def TopCutTicketsUptoSaid : Prop := topCutTicketsUptoRow.holds Tryz.pinned (OpenSpec.upto topCutTicketsSpec)

/-- 'quinellatop.TopClaimedPools', WHERE WHAT IT READS IS OF BULK AT MOST 1048576: true; the input reads as it did. -/
def topClaimedPoolsUptoRow : OpenClaim := { program := "ytacejomniokahaagreat", sum := "48bb0857ceff0334d8a448fe6f7c69406c58b28f5b545bff6ed96ba5a7a83cc6", func := "quinella/quinellatop.TopClaimedPools", spec := "topClaimedPools", unfollowed := true, recurses := true, plainKeys := false, apart := false, narrowed := true }
def TopClaimedPoolsUptoSaid : Prop := topClaimedPoolsUptoRow.holds Tryz.pinned (OpenSpec.upto topClaimedPoolsSpec)

end Rows
end Go.Proofs.YtacejomniokahaaGreat
