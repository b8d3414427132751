/- dominolaw27.SquarerangeProves: the row and its tied card: closed facts. -/
import Derived.Test.YtdgddpnjkinciaaGreatDoorCards
import Derived.Test.YtdgddpnjkinciaaGreatDoorTie
import Derived.SevenTiedAt
set_option linter.all false
set_option maxRecDepth 100000
set_option maxHeartbeats 16000000
namespace Go.Proofs.YtdgddpnjkinciaaGreatDoor
open Go
theorem sqpv_c2:Tryz.pinned.checked.prog.mainIs=some (true,"b41e852cf4ac213fe8314d728886992c1fe52ccfdd84ff3d43cd63fd02135640".toList):=by kernel_rfl
theorem sqpv_c3:Tryz.prog.funcNamed "domino/dominolaw27.SquarerangeProves"=some 3:=by kernel_rfl
end Go.Proofs.YtdgddpnjkinciaaGreatDoor
