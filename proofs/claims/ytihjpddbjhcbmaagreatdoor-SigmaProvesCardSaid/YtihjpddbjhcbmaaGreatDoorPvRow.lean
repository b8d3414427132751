/- dominolaw16.SigmaProves: the row and its tied card. -/
import Derived.Test.YtihjpddbjhcbmaaGreatDoorPvRowF
import Derived.Test.YtihjpddbjhcbmaaGreatDoorPvRowG
import Derived.Test.YtihjpddbjhcbmaaGreatDoorPvRowH
import Derived.SevenTiedAt
set_option linter.unusedVariables false
set_option linter.unusedSimpArgs false
set_option maxRecDepth 100000
set_option maxHeartbeats 16000000
namespace Go.Proofs.YtihjpddbjhcbmaaGreatDoor
open Go.RowKit Go.WideShapes Go.ChangeShapes Go.ChangeAt Go.Joins Go.Deep
open Go.ChangeMaps (open_string shut_string)
theorem sprv_c1:Rows.sigmaProvesRow.wfByText (OpenSpec.ofChange Rows.sigmaProvesSpec)=true:=by kernel_rfl
theorem sprv_c4:false=Tryz.pinned.checked.prog.looks []:=by kernel_rfl
theorem sprv_card:Rows.SigmaProvesCardSaid:=
 Claim7.holds_tied_plain_at .later [] [.data,.data,.data] true (true,"97a2870815da7cb9b0dee0fc16d01a03cfe0f7ebc3eb07e95cf368112d6ec9af") false
  sprv_holds (fun _ h=>by cases h) sprv_c1 (fun _ h=>by cases h) sigmaProves_row_tie rfl ⟨rfl,rfl⟩ sprv_c2 rfl
  (fun f fn hf hc=>by
   obtain rfl:f=3:=Option.some.inj (sprv_c3.symm.trans hf) |>.symm;obtain rfl:fn=Tryz.f3:=(Option.some.inj (Tryz.func3.symm.trans hc)).symm
   exact⟨sprv_c4,fun j t ht=>by
    rw[Tryz.params3]at ht;have hm:t∈[24,29,35]:=by simpa using Array.mem_of_getElem? ht
    have hb:([24,29,35].all fun u=>!Tryz.prog.wantsStandIn u)=true:=by kernel_rfl
    exact (show Tryz.prog.wantsStandIn t=false by simpa using List.all_eq_true.1 hb t hm)⟩)
  sprv_c6
end Go.Proofs.YtihjpddbjhcbmaaGreatDoor
