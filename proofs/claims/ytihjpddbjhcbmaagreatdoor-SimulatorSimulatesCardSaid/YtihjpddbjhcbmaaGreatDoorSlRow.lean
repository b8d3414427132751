/- dominolaw17.SimulatorSimulates: the row and its tied card. -/
import Derived.Test.YtihjpddbjhcbmaaGreatDoorSlRowF
import Derived.Test.YtihjpddbjhcbmaaGreatDoorSlRowG
import Derived.Test.YtihjpddbjhcbmaaGreatDoorSlRowH
import Derived.SevenTiedAt
set_option linter.unusedVariables false
set_option linter.unusedSimpArgs false
set_option maxRecDepth 100000
set_option maxHeartbeats 16000000
namespace Go.Proofs.YtihjpddbjhcbmaaGreatDoor
open Go.RowKit Go.WideShapes Go.ChangeShapes Go.ChangeAt Go.Joins Go.Deep
open Go.ChangeMaps (open_string shut_string)
theorem ssim_c1:Rows.simulatorSimulatesRow.wfByText (OpenSpec.ofChange Rows.simulatorSimulatesSpec)=true:=by kernel_rfl
theorem ssim_c4:false=Tryz.pinned.checked.prog.looks []:=by kernel_rfl
theorem ssim_card:Rows.SimulatorSimulatesCardSaid:=
 Claim7.holds_tied_plain_at .later [] [.data,.data,.data] true (true,"97a2870815da7cb9b0dee0fc16d01a03cfe0f7ebc3eb07e95cf368112d6ec9af") false
  ssim_holds (fun _ h=>by cases h) ssim_c1 (fun _ h=>by cases h) simulatorSimulates_row_tie rfl ⟨rfl,rfl⟩ ssim_c2 rfl
  (fun f fn hf hc=>by
   obtain rfl:f=4:=Option.some.inj (ssim_c3.symm.trans hf) |>.symm;obtain rfl:fn=Tryz.f4:=(Option.some.inj (Tryz.func4.symm.trans hc)).symm
   exact⟨ssim_c4,fun j t ht=>by
    rw[Tryz.params4]at ht;have hm:t∈[50]:=by simpa using Array.mem_of_getElem? ht
    have hb:([50].all fun u=>!Tryz.prog.wantsStandIn u)=true:=by kernel_rfl
    exact (show Tryz.prog.wantsStandIn t=false by simpa using List.all_eq_true.1 hb t hm)⟩)
  ssim_c6
end Go.Proofs.YtihjpddbjhcbmaaGreatDoor
