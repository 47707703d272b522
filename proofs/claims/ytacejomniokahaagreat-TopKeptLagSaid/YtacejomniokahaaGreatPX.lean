/- A part of the proof. -/
import Derived.Test.YtacejomniokahaaGreatRows
import Derived.Test.YtacejomniokahaaGreatPD
open Bool renaming and_eq_true→xe6
set_option linter.unusedVariables false
set_option linter.unusedSimpArgs false
set_option maxRecDepth 1000000
set_option maxHeartbeats 16000000
section
namespace Go.Proofs.YtacejomniokahaaGreat.TopKeptLag
open Go.ChangeShapes Go.WideShapes Go.ChangeAt Go.RowKit
theorem j3:mapsRowed Tryz.prog=true:=by kernel_rfl
theorem j10:(Rows.topKeptLagRow.inPlace == Tryz.prog.inPlace 7)=true:=by kernel_rfl
theorem j11:(Rows.topKeptLagRow.unfollowed == Tryz.prog.unfollowed 7)=true:=by kernel_rfl
theorem j12:(Rows.topKeptLagRow.recurses == Tryz.prog.recurses 7)=true:=by kernel_rfl
theorem j13:(Rows.topKeptLagRow.named == Tryz.prog.varsNamed 7)=true:=by kernel_rfl
theorem j25:Tryz.prog.stopsHeard=true:=by kernel_rfl
theorem j26:Tryz.prog.mayEnter=true:=by kernel_rfl
theorem j27:(Rows.topKeptLagRow.lifted == Tryz.prog.liftsFinal)=true:=by kernel_rfl
theorem j28:(Tryz.prog.make == some Rows.topKeptLagRow.make)=true:=by kernel_rfl
theorem qnX:joinedFacts Tryz.prog 7 Tryz.f7 Rows.topKeptLagSpec Rows.topKeptLagRow=true:=by
 unfold joinedFacts;simp only[xe6];exact⟨⟨⟨⟨⟨⟨⟨⟨⟨⟨⟨⟨⟨⟨⟨⟨⟨⟨⟨⟨⟨⟨⟨⟨⟨⟨⟨⟨⟨⟨⟨Ωa,Go.Tn.laid⟩,j3⟩,Ωa⟩,Ωa⟩,Ωa⟩,Ωa⟩,Ωa⟩,Ωa⟩,j10⟩,j11⟩,j12⟩,j13⟩,Ωa⟩,Ωa⟩,Ωa⟩,Ωa⟩,Ωa⟩,Ωa⟩,Ωa⟩,Ωa⟩,Ωa⟩,Ωa⟩,Ωa⟩,j25⟩,j26⟩,j27⟩,j28⟩,Ωa⟩,Ωa⟩,Ωa⟩,Ωa⟩
end Go.Proofs.YtacejomniokahaaGreat.TopKeptLag
end
