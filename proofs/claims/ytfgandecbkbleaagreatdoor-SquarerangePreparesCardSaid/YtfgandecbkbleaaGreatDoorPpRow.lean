/- dominolaw27.SquarerangePrepares: the row and its tied card. -/
import Derived.Test.YtfgandecbkbleaaGreatDoorPpRowF
import Derived.Test.YtfgandecbkbleaaGreatDoorPpRowG
import Derived.Test.YtfgandecbkbleaaGreatDoorPpRowH
import Derived.Test.YtfgandecbkbleaaGreatDoorCards
import Derived.Test.YtfgandecbkbleaaGreatDoorTie
import Derived.SevenTiedAt
set_option linter.unusedVariables false
set_option linter.unusedSimpArgs false
set_option maxRecDepth 100000
set_option maxHeartbeats 16000000
namespace Go.Proofs.YtfgandecbkbleaaGreatDoor
open Go.RowKit Go.WideShapes Go.ChangeShapes Go.ChangeAt Go.Joins Go.Deep
open Go.ChangeMaps (open_string shut_string)
theorem sqpp_c1:Rows.squarerangePreparesRow.wfByText (OpenSpec.ofChange Rows.squarerangePreparesSpec)=true:=by kernel_rfl
theorem sqpp_c4:false=Tryz.pinned.checked.prog.looks []:=by kernel_rfl
theorem sqpp_card:Rows.SquarerangePreparesCardSaid:=
 Claim7.holds_tied_plain_at .later [] [.data,.data,.data] true (true,"5b01db5f773c9c045b07e4ce2ad4d16c1c51e8a48b9835a1f4b540a105ed94b1") false
  sqpp_holds (fun _ h=>by cases h) sqpp_c1 (fun _ h=>by cases h) squarerangePrepares_row_tie rfl ⟨rfl,rfl⟩ sqpp_c2 rfl
  (fun f fn hf hfn=>by
   obtain rfl:f=4:=Option.some.inj (sqpp_c3.symm.trans hf) |>.symm;obtain rfl:fn=Tryz.f4:=(Option.some.inj (Tryz.func4.symm.trans hfn)).symm
   exact ⟨sqpp_c4,fun j t ht=>by
    rw [Tryz.params4] at ht;have hm:t∈[32,47]:=by simpa using Array.mem_of_getElem? ht
    have hall:([32,47].all fun u=>!Tryz.prog.wantsStandIn u)=true:=by kernel_rfl
    exact (show Tryz.prog.wantsStandIn t=false by simpa using List.all_eq_true.1 hall t hm)⟩)
  sqpp_c6
end Go.Proofs.YtfgandecbkbleaaGreatDoor
