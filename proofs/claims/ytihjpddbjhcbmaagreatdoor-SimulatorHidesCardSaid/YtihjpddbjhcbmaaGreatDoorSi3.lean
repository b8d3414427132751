/- simulator.drawn: the draws of the responses. -/
import Derived.Test.YtihjpddbjhcbmaaGreatDoorDrp
import Derived.Test.YtihjpddbjhcbmaaGreatDoorPrv2
set_option linter.unusedVariables false
set_option linter.unusedSimpArgs false
set_option maxRecDepth 100000
set_option maxHeartbeats 16000000
namespace Go.Proofs.YtihjpddbjhcbmaaGreatDoor
section
/- What simulator.Simulate draws,in numbers. -/
open Go.RowKit Go.Shelf
end
section
/- simulator.tape: whether a tape is well-formed. -/
open Go.RowKit Go.Shelf
end
section
/- simulator.Simulate's closure: the draw of one response. -/
open Go.RowKit Go.Shelf
end
section
open Go.RowKit Go.Shelf
end
end Go.Proofs.YtihjpddbjhcbmaaGreatDoor
