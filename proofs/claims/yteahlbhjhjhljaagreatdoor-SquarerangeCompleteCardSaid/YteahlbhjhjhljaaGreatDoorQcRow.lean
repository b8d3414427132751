/- dominolaw27.SquarerangeComplete: the row and its tied card. -/
import Derived.Test.YteahlbhjhjhljaaGreatDoorQcRowF
import Derived.Test.YteahlbhjhjhljaaGreatDoorQcRowG
import Derived.Test.YteahlbhjhjhljaaGreatDoorQcRowH
import Derived.Test.YteahlbhjhjhljaaGreatDoorCards
import Derived.Test.YteahlbhjhjhljaaGreatDoorTie
import Derived.SevenTiedAt
set_option linter.unusedVariables false
set_option linter.unusedSimpArgs false
set_option maxRecDepth 100000
set_option maxHeartbeats 16000000
namespace Go.Proofs.YteahlbhjhjhljaaGreatDoor
open Go.RowKit Go.WideShapes Go.ChangeShapes Go.ChangeAt Go.Joins Go.Deep
open Go.ChangeMaps (open_string shut_string)
theorem sqcp_c1:Rows.squarerangeCompleteRow.wfByText (OpenSpec.ofChange Rows.squarerangeCompleteSpec)=true:=by kernel_rfl
theorem sqcp_c4:false=Tryz.pinned.checked.prog.looks []:=by kernel_rfl
theorem sqcp_card:Rows.SquarerangeCompleteCardSaid:=
 Claim7.holds_tied_plain_at .later [] [.data,.data,.data] true (true,"990bb364e99c5421717e8760f903e055967c27eaacb870d584ade498152fbdee") false
  sqcp_holds (fun _ h=>by cases h) sqcp_c1 (fun _ h=>by cases h) squarerangeComplete_row_tie rfl ⟨rfl,rfl⟩ sqcp_c2 rfl
  (fun f fn hf hfn=>by
   obtain rfl:f=3:=Option.some.inj (sqcp_c3.symm.trans hf) |>.symm;obtain rfl:fn=Tryz.f3:=(Option.some.inj (Tryz.func3.symm.trans hfn)).symm
   exact ⟨sqcp_c4,fun j t ht=>by
    rw [Tryz.params3] at ht;have hm:t∈[32,35]:=by simpa using Array.mem_of_getElem? ht
    have hall:([32,35].all fun u=>!Tryz.prog.wantsStandIn u)=true:=by kernel_rfl
    exact (show Tryz.prog.wantsStandIn t=false by simpa using List.all_eq_true.1 hall t hm)⟩)
  sqcp_c6
end Go.Proofs.YteahlbhjhjhljaaGreatDoor
