/- dominolaw17.SimulatorCounts: the row and its tied card. -/
import Derived.Test.YtihjpddbjhcbmaaGreatDoorCtRowF
import Derived.Test.YtihjpddbjhcbmaaGreatDoorCtRowG
import Derived.Test.YtihjpddbjhcbmaaGreatDoorCtRowH
import Derived.SevenTiedAt
set_option linter.unusedVariables false
set_option linter.unusedSimpArgs false
set_option maxRecDepth 100000
set_option maxHeartbeats 16000000
namespace Go.Proofs.YtihjpddbjhcbmaaGreatDoor
open Go.RowKit Go.WideShapes Go.ChangeShapes Go.ChangeAt Go.Joins Go.Deep
open Go.ChangeMaps (open_string shut_string)
theorem scnt_c1:Rows.simulatorCountsRow.wfByText (OpenSpec.ofChange Rows.simulatorCountsSpec)=true:=by kernel_rfl
theorem scnt_c4:false=Tryz.pinned.checked.prog.looks []:=by kernel_rfl
theorem scnt_card:Rows.SimulatorCountsCardSaid:=
 Claim7.holds_tied_plain_at .later [] [.data,.data,.data] true (true,"97a2870815da7cb9b0dee0fc16d01a03cfe0f7ebc3eb07e95cf368112d6ec9af") false
  scnt_holds (fun _ h=>by cases h) scnt_c1 (fun _ h=>by cases h) simulatorCounts_row_tie rfl ⟨rfl,rfl⟩ scnt_c2 rfl
  (fun f fn hf hc=>by
   obtain rfl:f=7:=Option.some.inj (scnt_c3.symm.trans hf) |>.symm;obtain rfl:fn=Tryz.f7:=(Option.some.inj (Tryz.func7.symm.trans hc)).symm
   exact⟨scnt_c4,fun j t ht=>by
    rw[Tryz.params7]at ht;have hm:t∈[50]:=by simpa using Array.mem_of_getElem? ht
    have hb:([50].all fun u=>!Tryz.prog.wantsStandIn u)=true:=by kernel_rfl
    exact (show Tryz.prog.wantsStandIn t=false by simpa using List.all_eq_true.1 hb t hm)⟩)
  scnt_c6
end Go.Proofs.YtihjpddbjhcbmaaGreatDoor
