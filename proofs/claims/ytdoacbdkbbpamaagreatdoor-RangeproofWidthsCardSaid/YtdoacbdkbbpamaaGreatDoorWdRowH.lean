/- dominolaw24.RangeproofWidths: the row and its tied card: closed facts. -/
import Derived.Test.YtdoacbdkbbpamaaGreatDoorCards
import Derived.Test.YtdoacbdkbbpamaaGreatDoorTie
import Derived.SevenTiedAt
set_option linter.unusedVariables false
set_option linter.unusedSimpArgs false
set_option maxRecDepth 100000
set_option maxHeartbeats 16000000
namespace Go.Proofs.YtdoacbdkbbpamaaGreatDoor
open Go
theorem rgwd_c2:Tryz.pinned.checked.prog.mainIs=some (true,"fc42e0e0a57166f47e3b6ca160b611345919af0c3d3be17fa9680d967dc65fe8".toList):=by kernel_rfl
theorem rgwd_c3:Tryz.prog.funcNamed "domino/dominolaw24.RangeproofWidths"=some 3:=by kernel_rfl
end Go.Proofs.YtdoacbdkbbpamaaGreatDoor
