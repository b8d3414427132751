/- dominolaw24.RangeproofWidths: the row and its tied card: a closed fact. -/
import Derived.Test.YtdoacbdkbbpamaaGreatDoorCards
import Derived.Test.YtdoacbdkbbpamaaGreatDoorTie
import Derived.SevenTiedAt
set_option linter.unusedVariables false
set_option linter.unusedSimpArgs false
set_option maxRecDepth 100000
set_option maxHeartbeats 16000000
namespace Go.Proofs.YtdoacbdkbbpamaaGreatDoor
open Go
theorem rgwd_c6:false=Rows.rangeproofWidthsRow.goesBy Tryz.pinned.checked.prog:=by kernel_rfl
end Go.Proofs.YtdoacbdkbbpamaaGreatDoor
