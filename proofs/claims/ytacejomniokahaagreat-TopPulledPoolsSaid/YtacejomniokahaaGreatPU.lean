/- A part of the proof. -/
import Derived.Test.YtacejomniokahaaGreatRows
import Derived.Test.YtacejomniokahaaGreatPD
open Bool renaming and_eq_true→xe6
set_option linter.unusedVariables false
set_option linter.unusedSimpArgs false
set_option maxRecDepth 1000000
set_option maxHeartbeats 16000000
section
namespace Go.Proofs.YtacejomniokahaaGreat.TopPulledPools
open Go.ChangeShapes Go.WideShapes Go.ChangeAt Go.RowKit
theorem j3:mapsRowed Tryz.prog=true:=by kernel_rfl
theorem j10:(Rows.topPulledPoolsRow.inPlace == Tryz.prog.inPlace 4)=true:=by kernel_rfl
theorem j11:(Rows.topPulledPoolsRow.unfollowed == Tryz.prog.unfollowed 4)=true:=by kernel_rfl
theorem j12:(Rows.topPulledPoolsRow.recurses == Tryz.prog.recurses 4)=true:=by kernel_rfl
theorem j13:(Rows.topPulledPoolsRow.named == Tryz.prog.varsNamed 4)=true:=by kernel_rfl
theorem j25:Tryz.prog.stopsHeard=true:=by kernel_rfl
theorem j26:Tryz.prog.mayEnter=true:=by kernel_rfl
theorem j27:(Rows.topPulledPoolsRow.lifted == Tryz.prog.liftsFinal)=true:=by kernel_rfl
theorem j28:(Tryz.prog.make == some Rows.topPulledPoolsRow.make)=true:=by kernel_rfl
theorem qnn:joinedFacts Tryz.prog 4 Tryz.f4 Rows.topPulledPoolsSpec Rows.topPulledPoolsRow=true:=by
 unfold joinedFacts;simp only[xe6];exact⟨⟨⟨⟨⟨⟨⟨⟨⟨⟨⟨⟨⟨⟨⟨⟨⟨⟨⟨⟨⟨⟨⟨⟨⟨⟨⟨⟨⟨⟨⟨Ωd,Go.Tn.laid⟩,j3⟩,Ωd⟩,Ωd⟩,Ωd⟩,Ωd⟩,Ωd⟩,Ωd⟩,j10⟩,j11⟩,j12⟩,j13⟩,Ωd⟩,Ωd⟩,Ωd⟩,Ωd⟩,Ωd⟩,Ωd⟩,Ωd⟩,Ωd⟩,Ωd⟩,Ωd⟩,Ωd⟩,j25⟩,j26⟩,j27⟩,j28⟩,Ωd⟩,Ωd⟩,Ωd⟩,Ωd⟩
end Go.Proofs.YtacejomniokahaaGreat.TopPulledPools
end
