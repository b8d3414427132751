/- dominolaw27.SquarerangeProves: the row and its tied card: a closed fact. -/
import Derived.Test.YtdgddpnjkinciaaGreatDoorCards
import Derived.Test.YtdgddpnjkinciaaGreatDoorTie
import Derived.SevenTiedAt
set_option linter.all false
set_option maxRecDepth 100000
set_option maxHeartbeats 16000000
namespace Go.Proofs.YtdgddpnjkinciaaGreatDoor
open Go
theorem sqpv_c6:false=Rows.squarerangeProvesRow.goesBy Tryz.pinned.checked.prog:=by kernel_rfl
end Go.Proofs.YtdgddpnjkinciaaGreatDoor
