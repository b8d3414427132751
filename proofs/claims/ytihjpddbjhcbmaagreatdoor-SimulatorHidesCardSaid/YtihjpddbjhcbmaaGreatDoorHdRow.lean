/- dominolaw17.SimulatorHides: the row and its tied card. -/
import Derived.Test.YtihjpddbjhcbmaaGreatDoorHdRowF
import Derived.Test.YtihjpddbjhcbmaaGreatDoorHdRowG
import Derived.Test.YtihjpddbjhcbmaaGreatDoorHdRowH
import Derived.SevenTiedAt
set_option linter.unusedVariables false
set_option linter.unusedSimpArgs false
set_option maxRecDepth 100000
set_option maxHeartbeats 16000000
namespace Go.Proofs.YtihjpddbjhcbmaaGreatDoor
open Go.RowKit Go.WideShapes Go.ChangeShapes Go.ChangeAt Go.Joins Go.Deep
open Go.ChangeMaps (open_string shut_string)
theorem shid_c1:Rows.simulatorHidesRow.wfByText (OpenSpec.ofChange Rows.simulatorHidesSpec)=true:=by kernel_rfl
theorem shid_c4:false=Tryz.pinned.checked.prog.looks []:=by kernel_rfl
theorem shid_card:Rows.SimulatorHidesCardSaid:=
 Claim7.holds_tied_plain_at .later [] [.data,.data,.data] true (true,"97a2870815da7cb9b0dee0fc16d01a03cfe0f7ebc3eb07e95cf368112d6ec9af") false
  shid_holds (fun _ h=>by cases h) shid_c1 (fun _ h=>by cases h) simulatorHides_row_tie rfl ⟨rfl,rfl⟩ shid_c2 rfl
  (fun f fn hf hc=>by
   obtain rfl:f=6:=Option.some.inj (shid_c3.symm.trans hf) |>.symm;obtain rfl:fn=Tryz.f6:=(Option.some.inj (Tryz.func6.symm.trans hc)).symm
   exact⟨shid_c4,fun j t ht=>by
    rw[Tryz.params6]at ht;have hm:t∈[50,30]:=by simpa using Array.mem_of_getElem? ht
    have hb:([50,30].all fun u=>!Tryz.prog.wantsStandIn u)=true:=by kernel_rfl
    exact (show Tryz.prog.wantsStandIn t=false by simpa using List.all_eq_true.1 hb t hm)⟩)
  shid_c6
end Go.Proofs.YtihjpddbjhcbmaaGreatDoor
