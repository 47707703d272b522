/- A part of the proof. -/
import Derived.Test.YtacejomniokahaaGreatRows
import Derived.Test.YtacejomniokahaaGreatPD
open Bool renaming and_eq_true→xe6
set_option linter.unusedVariables false
set_option linter.unusedSimpArgs false
set_option maxRecDepth 1000000
set_option maxHeartbeats 16000000
section
namespace Go.Proofs.YtacejomniokahaaGreat.TopCutPools
open Go.ChangeShapes Go.WideShapes Go.ChangeAt Go.RowKit
theorem j3:mapsRowed Tryz.prog=true:=by kernel_rfl
theorem j10:(Rows.topCutPoolsRow.inPlace == Tryz.prog.inPlace 8)=true:=by kernel_rfl
theorem j11:(Rows.topCutPoolsRow.unfollowed == Tryz.prog.unfollowed 8)=true:=by kernel_rfl
theorem j12:(Rows.topCutPoolsRow.recurses == Tryz.prog.recurses 8)=true:=by kernel_rfl
theorem j13:(Rows.topCutPoolsRow.named == Tryz.prog.varsNamed 8)=true:=by kernel_rfl
theorem j25:Tryz.prog.stopsHeard=true:=by kernel_rfl
theorem j26:Tryz.prog.mayEnter=true:=by kernel_rfl
theorem j27:(Rows.topCutPoolsRow.lifted == Tryz.prog.liftsFinal)=true:=by kernel_rfl
theorem j28:(Tryz.prog.make == some Rows.topCutPoolsRow.make)=true:=by kernel_rfl
theorem qpR:joinedFacts Tryz.prog 8 Tryz.f8 Rows.topCutPoolsSpec Rows.topCutPoolsRow=true:=by
 unfold joinedFacts;simp only[xe6];exact⟨⟨⟨⟨⟨⟨⟨⟨⟨⟨⟨⟨⟨⟨⟨⟨⟨⟨⟨⟨⟨⟨⟨⟨⟨⟨⟨⟨⟨⟨⟨Ωb,Go.Tn.laid⟩,j3⟩,Ωb⟩,Ωb⟩,Ωb⟩,Ωb⟩,Ωb⟩,Ωb⟩,j10⟩,j11⟩,j12⟩,j13⟩,Ωb⟩,Ωb⟩,Ωb⟩,Ωb⟩,Ωb⟩,Ωb⟩,Ωb⟩,Ωb⟩,Ωb⟩,Ωb⟩,Ωb⟩,j25⟩,j26⟩,j27⟩,j28⟩,Ωb⟩,Ωb⟩,Ωb⟩,Ωb⟩
end Go.Proofs.YtacejomniokahaaGreat.TopCutPools
end
