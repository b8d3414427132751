/- dominolaw24.RangeproofWidths: the row and its tied card. -/
import Derived.Test.YtdoacbdkbbpamaaGreatDoorWdRowF
import Derived.Test.YtdoacbdkbbpamaaGreatDoorWdRowG
import Derived.Test.YtdoacbdkbbpamaaGreatDoorWdRowH
import Derived.Test.YtdoacbdkbbpamaaGreatDoorCards
import Derived.Test.YtdoacbdkbbpamaaGreatDoorTie
import Derived.SevenTiedAt
set_option linter.unusedVariables false
set_option linter.unusedSimpArgs false
set_option maxRecDepth 100000
set_option maxHeartbeats 16000000
namespace Go.Proofs.YtdoacbdkbbpamaaGreatDoor
open Go.RowKit Go.WideShapes Go.ChangeShapes Go.ChangeAt Go.Joins Go.Deep
open Go.ChangeMaps (open_string shut_string)
theorem rgwd_c1:Rows.rangeproofWidthsRow.wfByText (OpenSpec.ofChange Rows.rangeproofWidthsSpec)=true:=by kernel_rfl
theorem rgwd_c4:false=Tryz.pinned.checked.prog.looks []:=by kernel_rfl
theorem rgwd_card:Rows.RangeproofWidthsCardSaid:=
 Claim7.holds_tied_plain_at .later [] [.data,.data,.data] true (true,"fc42e0e0a57166f47e3b6ca160b611345919af0c3d3be17fa9680d967dc65fe8") false
  rgwd_holds (fun _ h=>by cases h) rgwd_c1 (fun _ h=>by cases h) rangeproofWidths_row_tie rfl ⟨rfl,rfl⟩ rgwd_c2 rfl
  (fun f fn hf hfn=>by
   obtain rfl:f=3:=Option.some.inj (rgwd_c3.symm.trans hf) |>.symm;obtain rfl:fn=Tryz.f3:=(Option.some.inj (Tryz.func3.symm.trans hfn)).symm
   exact ⟨rgwd_c4,fun j t ht=>by
    rw [Tryz.params3] at ht;have hm:t∈[23]:=by simpa using Array.mem_of_getElem? ht
    have hall:([23].all fun u=>!Tryz.prog.wantsStandIn u)=true:=by kernel_rfl
    exact (show Tryz.prog.wantsStandIn t=false by simpa using List.all_eq_true.1 hall t hm)⟩)
  rgwd_c6
end Go.Proofs.YtdoacbdkbbpamaaGreatDoor
