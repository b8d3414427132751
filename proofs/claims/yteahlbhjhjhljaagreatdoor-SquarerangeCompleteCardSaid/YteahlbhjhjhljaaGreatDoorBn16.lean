import Derived.Test.YteahlbhjhjhljaaGreatDoorSig5
import Derived.Test.YteahlbhjhjhljaaGreatDoorLck6
set_option linter.unusedVariables false
set_option linter.unusedSimpArgs false
set_option maxRecDepth 100000
set_option maxHeartbeats 16000000
namespace Go.Proofs.YteahlbhjhjhljaaGreatDoor
section
open Go.RowKit Go.Shelf
end
section
open Go.RowKit Go.Shelf
end
section
/- Differences of two proofs,in bytes: both sides return the same error,or there are numbers. -/
open Go.RowKit Go.Shelf
theorem numk {s:ByteArray} {k:Nat} (h:s.size≤k) (hv:vldB s=true):∃n,n<256^k∧s=E n:=by
 obtain ⟨n,_,rfl⟩:=of_vldB hv;exact ⟨n,lt_of_size h,rfl⟩
end
section
open Go.RowKit Go.Shelf
end
section
open Go.RowKit Go.Shelf
end
end Go.Proofs.YteahlbhjhjhljaaGreatDoor
