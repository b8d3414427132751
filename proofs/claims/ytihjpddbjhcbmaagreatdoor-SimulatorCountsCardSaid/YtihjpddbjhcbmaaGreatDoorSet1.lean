import Derived.Test.YtihjpddbjhcbmaaGreatDoorPow4
set_option linter.unusedVariables false
set_option linter.unusedSimpArgs false
set_option maxRecDepth 100000
set_option maxHeartbeats 16000000
namespace Go.Proofs.YtihjpddbjhcbmaaGreatDoor
section
open Go.RowKit
theorem sz1000 {n:Nat} (h:n<256^128):(E n).size≤1000:=by have:=sz n h;omega
end
section
open Go.RowKit
end
end Go.Proofs.YtihjpddbjhcbmaaGreatDoor
