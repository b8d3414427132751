/- dominolaw27.SquarerangeComplete: the row and its tied card: a closed fact. -/
import Derived.Test.YteahlbhjhjhljaaGreatDoorCards
import Derived.Test.YteahlbhjhjhljaaGreatDoorTie
import Derived.SevenTiedAt
set_option linter.unusedVariables false
set_option linter.unusedSimpArgs false
set_option maxRecDepth 100000
set_option maxHeartbeats 16000000
namespace Go.Proofs.YteahlbhjhjhljaaGreatDoor
open Go
theorem sqcp_c6:false=Rows.squarerangeCompleteRow.goesBy Tryz.pinned.checked.prog:=by kernel_rfl
end Go.Proofs.YteahlbhjhjhljaaGreatDoor
