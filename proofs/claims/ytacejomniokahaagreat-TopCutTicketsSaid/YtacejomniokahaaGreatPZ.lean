/- A part of the proof. -/
import Derived.Test.YtacejomniokahaaGreatRows
import Derived.Test.YtacejomniokahaaGreatPD
open Bool renaming and_eq_true→xe6
set_option linter.unusedVariables false
set_option linter.unusedSimpArgs false
set_option maxRecDepth 1000000
set_option maxHeartbeats 16000000
section
namespace Go.Proofs.YtacejomniokahaaGreat.TopCutTickets
open Go.ChangeShapes Go.WideShapes Go.ChangeAt Go.RowKit
theorem j3:mapsRowed Tryz.prog=true:=by kernel_rfl
theorem j10:(Rows.topCutTicketsRow.inPlace == Tryz.prog.inPlace 9)=true:=by kernel_rfl
theorem j11:(Rows.topCutTicketsRow.unfollowed == Tryz.prog.unfollowed 9)=true:=by kernel_rfl
theorem j12:(Rows.topCutTicketsRow.recurses == Tryz.prog.recurses 9)=true:=by kernel_rfl
theorem j13:(Rows.topCutTicketsRow.named == Tryz.prog.varsNamed 9)=true:=by kernel_rfl
theorem j25:Tryz.prog.stopsHeard=true:=by kernel_rfl
theorem j26:Tryz.prog.mayEnter=true:=by kernel_rfl
theorem j27:(Rows.topCutTicketsRow.lifted == Tryz.prog.liftsFinal)=true:=by kernel_rfl
theorem j28:(Tryz.prog.make == some Rows.topCutTicketsRow.make)=true:=by kernel_rfl
theorem qpB:joinedFacts Tryz.prog 9 Tryz.f9 Rows.topCutTicketsSpec Rows.topCutTicketsRow=true:=by
 unfold joinedFacts;simp only[xe6];exact⟨⟨⟨⟨⟨⟨⟨⟨⟨⟨⟨⟨⟨⟨⟨⟨⟨⟨⟨⟨⟨⟨⟨⟨⟨⟨⟨⟨⟨⟨⟨Ωc,Go.Tn.laid⟩,j3⟩,Ωc⟩,Ωc⟩,Ωc⟩,Ωc⟩,Ωc⟩,Ωc⟩,j10⟩,j11⟩,j12⟩,j13⟩,Ωc⟩,Ωc⟩,Ωc⟩,Ωc⟩,Ωc⟩,Ωc⟩,Ωc⟩,Ωc⟩,Ωc⟩,Ωc⟩,Ωc⟩,j25⟩,j26⟩,j27⟩,j28⟩,Ωc⟩,Ωc⟩,Ωc⟩,Ωc⟩
end Go.Proofs.YtacejomniokahaaGreat.TopCutTickets
end
