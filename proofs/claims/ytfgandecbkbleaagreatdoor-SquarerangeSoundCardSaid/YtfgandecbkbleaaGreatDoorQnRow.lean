/- dominolaw27.SquarerangeSound: the row and its tied card. -/
import Derived.Test.YtfgandecbkbleaaGreatDoorQnRowF
import Derived.Test.YtfgandecbkbleaaGreatDoorQnRowG
import Derived.Test.YtfgandecbkbleaaGreatDoorQnRowH
import Derived.Test.YtfgandecbkbleaaGreatDoorCards
import Derived.Test.YtfgandecbkbleaaGreatDoorTie
import Derived.SevenTiedAt
set_option linter.unusedVariables false
set_option linter.unusedSimpArgs false
set_option maxRecDepth 100000
set_option maxHeartbeats 16000000
namespace Go.Proofs.YtfgandecbkbleaaGreatDoor
open Go.RowKit Go.WideShapes Go.ChangeShapes Go.ChangeAt Go.Joins Go.Deep
open Go.ChangeMaps (open_string shut_string)
theorem sqsn_c1:Rows.squarerangeSoundRow.wfByText (OpenSpec.ofChange Rows.squarerangeSoundSpec)=true:=by kernel_rfl
theorem sqsn_c4:false=Tryz.pinned.checked.prog.looks []:=by kernel_rfl
theorem sqsn_card:Rows.SquarerangeSoundCardSaid:=
 Claim7.holds_tied_plain_at .later [] [.data,.data,.data] true (true,"5b01db5f773c9c045b07e4ce2ad4d16c1c51e8a48b9835a1f4b540a105ed94b1") false
  sqsn_holds (fun _ h=>by cases h) sqsn_c1 (fun _ h=>by cases h) squarerangeSound_row_tie rfl ⟨rfl,rfl⟩ sqsn_c2 rfl
  (fun f fn hf hfn=>by
   obtain rfl:f=7:=Option.some.inj (sqsn_c3.symm.trans hf) |>.symm;obtain rfl:fn=Tryz.f7:=(Option.some.inj (Tryz.func7.symm.trans hfn)).symm
   exact ⟨sqsn_c4,fun j t ht=>by
    rw [Tryz.params7] at ht;have hm:t∈[32,81]:=by simpa using Array.mem_of_getElem? ht
    have hall:([32,81].all fun u=>!Tryz.prog.wantsStandIn u)=true:=by kernel_rfl
    exact (show Tryz.prog.wantsStandIn t=false by simpa using List.all_eq_true.1 hall t hm)⟩)
  sqsn_c6
end Go.Proofs.YtfgandecbkbleaaGreatDoor
