/- dominolaw27.SquarerangeWitnesses: the row and its tied card: a closed fact. -/
import Derived.Test.YtfgandecbkbleaaGreatDoorCards
import Derived.Test.YtfgandecbkbleaaGreatDoorTie
import Derived.SevenTiedAt
set_option linter.unusedVariables false
set_option linter.unusedSimpArgs false
set_option maxRecDepth 100000
namespace Go.Proofs.YtfgandecbkbleaaGreatDoor

open Go
theorem sqwi_c6 : false = Rows.squarerangeWitnessesRow.goesBy Tryz.pinned.checked.prog := by kernel_rfl
end Go.Proofs.YtfgandecbkbleaaGreatDoor
