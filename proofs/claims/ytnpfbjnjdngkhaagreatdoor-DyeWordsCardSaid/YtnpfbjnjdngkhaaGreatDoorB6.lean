import Derived.Test.YtnpfbjnjdngkhaaGreatDoorRows
import Derived.JoinedOf
import Derived.SevenTiedAt
import Derived.Test.YtnpfbjnjdngkhaaGreatDoorB5
set_option maxHeartbeats 8000000
set_option maxRecDepth 100000
set_option linter.unusedVariables false
set_option linter.unusedSimpArgs false
set_option linter.unusedSectionVars false
namespace Go.Proofs.YtnpfbjnjdngkhaaGreatDoor.P
open Go
theorem ga {a b:Bool} (h:a=true) (k:b=true):(a&&b)=true:=by rw [h,k];rfl
theorem g1:laidOutB Tryz.prog=true:=by kernel_rfl
theorem g2:mapsRowed Tryz.prog=true:=by kernel_rfl
theorem g6:(Tryz.prog.stops == [])=true:=by kernel_rfl
theorem g8:(Tryz.prog.stopKnobs == [])=true:=by kernel_rfl
theorem g23:(true == Tryz.prog.plainKeys)=true:=by kernel_rfl
theorem g25:Tryz.prog.stopsHeard=true:=by kernel_rfl
theorem g26:Tryz.prog.mayEnter=true:=by kernel_rfl
theorem g27:(false == Tryz.prog.liftsFinal)=true:=by kernel_rfl
theorem g28:(Tryz.prog.make == some .cut)=true:=by kernel_rfl
theorem g30:Tryz.prog.mainIs=some (true, "02506c6772bdc43bd513de4e4af4406d9241d99a8fb894d2eb1f57dc419b7a24".toList):=by kernel_rfl
theorem g31:true=Tryz.prog.looks []:=by kernel_rfl
end Go.Proofs.YtnpfbjnjdngkhaaGreatDoor.P
