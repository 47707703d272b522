/- A part of the proof. -/
import Derived.Test.YtacejomniokahaaGreatRows
import Derived.Test.YtacejomniokahaaGreatPD
open Bool renaming and_eq_true→xe6
set_option linter.unusedVariables false
set_option linter.unusedSimpArgs false
set_option maxRecDepth 1000000
set_option maxHeartbeats 16000000
section
namespace Go.Proofs.YtacejomniokahaaGreat.TopPooledOdds
open Go.ChangeShapes Go.WideShapes Go.ChangeAt Go.RowKit
theorem j3:mapsRowed Tryz.prog=true:=by kernel_rfl
theorem j10:(Rows.topPooledOddsRow.inPlace == Tryz.prog.inPlace 5)=true:=by kernel_rfl
theorem j11:(Rows.topPooledOddsRow.unfollowed == Tryz.prog.unfollowed 5)=true:=by kernel_rfl
theorem j12:(Rows.topPooledOddsRow.recurses == Tryz.prog.recurses 5)=true:=by kernel_rfl
theorem j13:(Rows.topPooledOddsRow.named == Tryz.prog.varsNamed 5)=true:=by kernel_rfl
theorem j25:Tryz.prog.stopsHeard=true:=by kernel_rfl
theorem j26:Tryz.prog.mayEnter=true:=by kernel_rfl
theorem j27:(Rows.topPooledOddsRow.lifted == Tryz.prog.liftsFinal)=true:=by kernel_rfl
theorem j28:(Tryz.prog.make == some Rows.topPooledOddsRow.make)=true:=by kernel_rfl
theorem qmP:joinedFacts Tryz.prog 5 Tryz.f5 Rows.topPooledOddsSpec Rows.topPooledOddsRow=true:=by
 unfold joinedFacts;simp only[xe6];exact⟨⟨⟨⟨⟨⟨⟨⟨⟨⟨⟨⟨⟨⟨⟨⟨⟨⟨⟨⟨⟨⟨⟨⟨⟨⟨⟨⟨⟨⟨⟨Ωc,Go.Tn.laid⟩,j3⟩,Ωc⟩,Ωc⟩,Ωc⟩,Ωc⟩,Ωc⟩,Ωc⟩,j10⟩,j11⟩,j12⟩,j13⟩,Ωc⟩,Ωc⟩,Ωc⟩,Ωc⟩,Ωc⟩,Ωc⟩,Ωc⟩,Ωc⟩,Ωc⟩,Ωc⟩,Ωc⟩,j25⟩,j26⟩,j27⟩,j28⟩,Ωc⟩,Ωc⟩,Ωc⟩,Ωc⟩
end Go.Proofs.YtacejomniokahaaGreat.TopPooledOdds
end
