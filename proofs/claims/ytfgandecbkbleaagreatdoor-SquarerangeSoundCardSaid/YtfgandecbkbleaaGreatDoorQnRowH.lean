/- dominolaw27.SquarerangeSound: the row and its tied card: closed facts. -/
import Derived.Test.YtfgandecbkbleaaGreatDoorCards
import Derived.Test.YtfgandecbkbleaaGreatDoorTie
import Derived.SevenTiedAt
set_option linter.unusedVariables false
set_option linter.unusedSimpArgs false
set_option maxRecDepth 100000
set_option maxHeartbeats 16000000
namespace Go.Proofs.YtfgandecbkbleaaGreatDoor
open Go
theorem sqsn_c2:Tryz.pinned.checked.prog.mainIs=some (true,"5b01db5f773c9c045b07e4ce2ad4d16c1c51e8a48b9835a1f4b540a105ed94b1".toList):=by kernel_rfl
theorem sqsn_c3:Tryz.prog.funcNamed "domino/dominolaw27.SquarerangeSound"=some 7:=by kernel_rfl
end Go.Proofs.YtfgandecbkbleaaGreatDoor
