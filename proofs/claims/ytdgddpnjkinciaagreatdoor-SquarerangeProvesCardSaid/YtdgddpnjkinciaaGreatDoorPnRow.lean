/- dominolaw27.SquarerangeProves: the row and its tied card. -/
import Derived.Test.YtdgddpnjkinciaaGreatDoorPnRowF
import Derived.Test.YtdgddpnjkinciaaGreatDoorPnRowG
import Derived.Test.YtdgddpnjkinciaaGreatDoorPnRowH
import Derived.SevenTiedAt
set_option linter.all false
set_option maxRecDepth 100000
set_option maxHeartbeats 16000000
namespace Go.Proofs.YtdgddpnjkinciaaGreatDoor
open Go.RowKit Go.WideShapes Go.ChangeShapes Go.ChangeAt Go.Joins Go.Deep
open Go.ChangeMaps (open_string shut_string)
theorem sqpv_c1:Rows.squarerangeProvesRow.wfByText (OpenSpec.ofChange Rows.squarerangeProvesSpec)=true:=by kernel_rfl
theorem sqpv_c4:false=Tryz.pinned.checked.prog.looks []:=by kernel_rfl
theorem sqpv_card:Rows.SquarerangeProvesCardSaid:=
 Claim7.holds_tied_plain_at .later [] [.data,.data,.data] true (true,"b41e852cf4ac213fe8314d728886992c1fe52ccfdd84ff3d43cd63fd02135640") false
  sqpv_holds (fun _ h=>by cases h) sqpv_c1 (fun _ h=>by cases h) squarerangeProves_row_tie rfl ⟨rfl,rfl⟩ sqpv_c2 rfl
  (fun f fn hf hc=>by
   obtain rfl:f=3:=Option.some.inj (sqpv_c3.symm.trans hf) |>.symm;obtain rfl:fn=Tryz.f3:=(Option.some.inj (Tryz.func3.symm.trans hc)).symm
   exact⟨sqpv_c4,fun j t ht=>by
    rw[Tryz.params3]at ht;have hm:t∈[32,5,35]:=by simpa using Array.mem_of_getElem? ht
    have hb:([32,5,35].all fun u=>!Tryz.prog.wantsStandIn u)=true:=by kernel_rfl
    exact (show Tryz.prog.wantsStandIn t=false by simpa using List.all_eq_true.1 hb t hm)⟩)
  sqpv_c6
end Go.Proofs.YtdgddpnjkinciaaGreatDoor
