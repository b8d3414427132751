/- dominolaw27.SquarerangeWitnesses: the row and its tied card. -/
import Derived.Test.YtfgandecbkbleaaGreatDoorWiRowF
import Derived.Test.YtfgandecbkbleaaGreatDoorWiRowG
import Derived.Test.YtfgandecbkbleaaGreatDoorWiRowH
import Derived.Test.YtfgandecbkbleaaGreatDoorCards
import Derived.Test.YtfgandecbkbleaaGreatDoorTie
import Derived.SevenTiedAt
set_option linter.unusedVariables false
set_option linter.unusedSimpArgs false
set_option maxRecDepth 100000
namespace Go.Proofs.YtfgandecbkbleaaGreatDoor
open Go.RowKit Go.WideShapes Go.ChangeShapes Go.ChangeAt Go.Joins Go.Deep
open Go.ChangeMaps (open_string shut_string)

theorem sqwi_c1 : Rows.squarerangeWitnessesRow.wfByText (OpenSpec.ofChange Rows.squarerangeWitnessesSpec) = true := by kernel_rfl
theorem sqwi_c4 : false = Tryz.pinned.checked.prog.looks [] := by kernel_rfl

theorem sqwi_card : Rows.SquarerangeWitnessesCardSaid :=
 Claim7.holds_tied_plain_at .later [] [.data, .data, .data] true (true, "5b01db5f773c9c045b07e4ce2ad4d16c1c51e8a48b9835a1f4b540a105ed94b1") false
  sqwi_holds (fun _ h => by cases h) sqwi_c1 (fun _ h => by cases h) squarerangeWitnesses_row_tie rfl ⟨rfl, rfl⟩ sqwi_c2 rfl
  (fun f fn hf hfn => by
   obtain rfl : f = 3 := Option.some.inj (sqwi_c3.symm.trans hf) |>.symm
   obtain rfl : fn = Tryz.f3 := (Option.some.inj (Tryz.func3.symm.trans hfn)).symm
   exact ⟨sqwi_c4, fun j t ht => by
    rw [Tryz.params3] at ht
    have hm : t ∈ [32, 33] := by simpa using Array.mem_of_getElem? ht
    have hall : ([32, 33].all fun u => !Tryz.prog.wantsStandIn u) = true := by kernel_rfl
    exact (show Tryz.prog.wantsStandIn t = false by simpa using List.all_eq_true.1 hall t hm)⟩)
  sqwi_c6
end Go.Proofs.YtfgandecbkbleaaGreatDoor
