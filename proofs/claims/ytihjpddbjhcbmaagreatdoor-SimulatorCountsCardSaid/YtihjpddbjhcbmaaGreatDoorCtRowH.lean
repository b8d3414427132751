/- dominolaw17.SimulatorCounts: the row and its tied card: closed facts. -/
import Derived.Test.YtihjpddbjhcbmaaGreatDoorCards
import Derived.Test.YtihjpddbjhcbmaaGreatDoorTie
import Derived.SevenTiedAt
set_option linter.unusedVariables false
set_option linter.unusedSimpArgs false
set_option maxRecDepth 100000
set_option maxHeartbeats 16000000
namespace Go.Proofs.YtihjpddbjhcbmaaGreatDoor
open Go
theorem scnt_c2:Tryz.pinned.checked.prog.mainIs=some (true,"97a2870815da7cb9b0dee0fc16d01a03cfe0f7ebc3eb07e95cf368112d6ec9af".toList):=by kernel_rfl
theorem scnt_c3:Tryz.prog.funcNamed "domino/dominolaw17.SimulatorCounts"=some 7:=by kernel_rfl
end Go.Proofs.YtihjpddbjhcbmaaGreatDoor
