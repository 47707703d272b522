/- A part of the proof. -/
import Derived.Test.YtacejomniokahaaGreatRows
import Derived.Test.YtacejomniokahaaGreatPD
open Bool renaming and_eq_true→xe6
set_option linter.unusedVariables false
set_option linter.unusedSimpArgs false
set_option maxRecDepth 1000000
set_option maxHeartbeats 16000000
section
namespace Go.Proofs.YtacejomniokahaaGreat.TopTurnedLag
open Go.ChangeShapes Go.WideShapes Go.ChangeAt Go.RowKit
theorem j3:mapsRowed Tryz.prog=true:=by kernel_rfl
theorem j10:(Rows.topTurnedLagRow.inPlace == Tryz.prog.inPlace 3)=true:=by kernel_rfl
theorem j11:(Rows.topTurnedLagRow.unfollowed == Tryz.prog.unfollowed 3)=true:=by kernel_rfl
theorem j12:(Rows.topTurnedLagRow.recurses == Tryz.prog.recurses 3)=true:=by kernel_rfl
theorem j13:(Rows.topTurnedLagRow.named == Tryz.prog.varsNamed 3)=true:=by kernel_rfl
theorem j25:Tryz.prog.stopsHeard=true:=by kernel_rfl
theorem j26:Tryz.prog.mayEnter=true:=by kernel_rfl
theorem j27:(Rows.topTurnedLagRow.lifted == Tryz.prog.liftsFinal)=true:=by kernel_rfl
theorem j28:(Tryz.prog.make == some Rows.topTurnedLagRow.make)=true:=by kernel_rfl
theorem qns:joinedFacts Tryz.prog 3 Tryz.f3 Rows.topTurnedLagSpec Rows.topTurnedLagRow=true:=by
 unfold joinedFacts;simp only[xe6];exact⟨⟨⟨⟨⟨⟨⟨⟨⟨⟨⟨⟨⟨⟨⟨⟨⟨⟨⟨⟨⟨⟨⟨⟨⟨⟨⟨⟨⟨⟨⟨Ωb,Go.Tn.laid⟩,j3⟩,Ωb⟩,Ωb⟩,Ωb⟩,Ωb⟩,Ωb⟩,Ωb⟩,j10⟩,j11⟩,j12⟩,j13⟩,Ωb⟩,Ωb⟩,Ωb⟩,Ωb⟩,Ωb⟩,Ωb⟩,Ωb⟩,Ωb⟩,Ωb⟩,Ωb⟩,Ωb⟩,j25⟩,j26⟩,j27⟩,j28⟩,Ωb⟩,Ωb⟩,Ωb⟩,Ωb⟩
end Go.Proofs.YtacejomniokahaaGreat.TopTurnedLag
end
