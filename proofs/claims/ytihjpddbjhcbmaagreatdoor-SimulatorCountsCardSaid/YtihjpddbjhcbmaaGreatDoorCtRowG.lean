/- dominolaw17.SimulatorCounts: the row and its tied card: a closed fact. -/
import Derived.Test.YtihjpddbjhcbmaaGreatDoorCards
import Derived.Test.YtihjpddbjhcbmaaGreatDoorTie
import Derived.SevenTiedAt
set_option linter.unusedVariables false
set_option linter.unusedSimpArgs false
set_option maxRecDepth 100000
set_option maxHeartbeats 16000000
namespace Go.Proofs.YtihjpddbjhcbmaaGreatDoor
open Go
theorem scnt_c6:false=Rows.simulatorCountsRow.goesBy Tryz.pinned.checked.prog:=by kernel_rfl
end Go.Proofs.YtihjpddbjhcbmaaGreatDoor
