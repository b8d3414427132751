/- dominolaw27.SquarerangeStates: the row and its tied card. -/
import Derived.Test.YtfgandecbkbleaaGreatDoorQsRowF
import Derived.Test.YtfgandecbkbleaaGreatDoorQsRowG
import Derived.Test.YtfgandecbkbleaaGreatDoorQsRowH
import Derived.Test.YtfgandecbkbleaaGreatDoorCards
import Derived.Test.YtfgandecbkbleaaGreatDoorTie
import Derived.SevenTiedAt
set_option linter.unusedVariables false
set_option linter.unusedSimpArgs false
set_option maxRecDepth 100000
set_option maxHeartbeats 16000000
namespace Go.Proofs.YtfgandecbkbleaaGreatDoor
open Go.RowKit Go.WideShapes Go.ChangeShapes Go.ChangeAt Go.Joins Go.Deep
open Go.ChangeMaps (open_string shut_string)
theorem sqst_c1:Rows.squarerangeStatesRow.wfByText (OpenSpec.ofChange Rows.squarerangeStatesSpec)=true:=by kernel_rfl
theorem sqst_c4:false=Tryz.pinned.checked.prog.looks []:=by kernel_rfl
theorem sqst_card:Rows.SquarerangeStatesCardSaid:=
 Claim7.holds_tied_plain_at .later [] [.data,.data,.data] true (true,"5b01db5f773c9c045b07e4ce2ad4d16c1c51e8a48b9835a1f4b540a105ed94b1") false
  sqst_holds (fun _ h=>by cases h) sqst_c1 (fun _ h=>by cases h) squarerangeStates_row_tie rfl ⟨rfl,rfl⟩ sqst_c2 rfl
  (fun f fn hf hfn=>by
   obtain rfl:f=5:=Option.some.inj (sqst_c3.symm.trans hf) |>.symm;obtain rfl:fn=Tryz.f5:=(Option.some.inj (Tryz.func5.symm.trans hfn)).symm
   exact ⟨sqst_c4,fun j t ht=>by
    rw [Tryz.params5] at ht;have hm:t∈[32,22,45]:=by simpa using Array.mem_of_getElem? ht
    have hall:([32,22,45].all fun u=>!Tryz.prog.wantsStandIn u)=true:=by kernel_rfl
    exact (show Tryz.prog.wantsStandIn t=false by simpa using List.all_eq_true.1 hall t hm)⟩)
  sqst_c6
end Go.Proofs.YtfgandecbkbleaaGreatDoor
