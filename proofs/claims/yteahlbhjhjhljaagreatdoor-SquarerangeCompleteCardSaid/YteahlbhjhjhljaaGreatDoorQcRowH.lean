/- dominolaw27.SquarerangeComplete: the row and its tied card: closed facts. -/
import Derived.Test.YteahlbhjhjhljaaGreatDoorCards
import Derived.Test.YteahlbhjhjhljaaGreatDoorTie
import Derived.SevenTiedAt
set_option linter.unusedVariables false
set_option linter.unusedSimpArgs false
set_option maxRecDepth 100000
set_option maxHeartbeats 16000000
namespace Go.Proofs.YteahlbhjhjhljaaGreatDoor
open Go
theorem sqcp_c2:Tryz.pinned.checked.prog.mainIs=some (true,"990bb364e99c5421717e8760f903e055967c27eaacb870d584ade498152fbdee".toList):=by kernel_rfl
theorem sqcp_c3:Tryz.prog.funcNamed "domino/dominolaw27.SquarerangeComplete"=some 3:=by kernel_rfl
end Go.Proofs.YteahlbhjhjhljaaGreatDoor
