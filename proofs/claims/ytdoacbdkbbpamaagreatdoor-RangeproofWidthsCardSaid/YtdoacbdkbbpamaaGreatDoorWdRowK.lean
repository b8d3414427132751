/- dominolaw24.RangeproofWidths: the row and its tied card: closed facts. -/
import Derived.Test.YtdoacbdkbbpamaaGreatDoorLdvl
import Derived.Test.YtdoacbdkbbpamaaGreatDoorWd24
set_option linter.unusedVariables false
set_option linter.unusedSimpArgs false
set_option maxRecDepth 100000
set_option maxHeartbeats 16000000
namespace Go.Proofs.YtdoacbdkbbpamaaGreatDoor
open Go.RowKit Go.WideShapes Go.ChangeShapes Go.ChangeAt Go.Joins Go.Deep
open Go.ChangeMaps (open_string shut_string)
theorem rgwd_k0:(Rows.rangeproofWidthsRow.inPlace==Tryz.prog.inPlace 3)=true:=by kernel_rfl
theorem rgwd_k1:(Rows.rangeproofWidthsRow.unfollowed==Tryz.prog.unfollowed 3)=true:=by kernel_rfl
theorem rgwd_k2:(Rows.rangeproofWidthsRow.recurses==Tryz.prog.recurses 3)=true:=by kernel_rfl
theorem rgwd_k3:(Rows.rangeproofWidthsRow.named==Tryz.prog.varsNamed 3)=true:=by kernel_rfl
theorem rgwd_k4:(laidOutB Tryz.prog)=true:=by kernel_rfl
theorem rgwd_k5:(mapsRowed Tryz.prog)=true:=by kernel_rfl
theorem rgwd_k6:(Tryz.prog.stopsHeard)=true:=by kernel_rfl
theorem rgwd_k7:(Tryz.prog.mayEnter)=true:=by kernel_rfl
theorem rgwd_k8:(Rows.rangeproofWidthsRow.lifted==Tryz.prog.liftsFinal)=true:=by kernel_rfl
theorem rgwd_k9:(Rows.rangeproofWidthsRow.plainKeys==Tryz.prog.plainKeys)=true:=by kernel_rfl
theorem rgwd_k10:(Rows.rangeproofWidthsRow.pinned==Rows.rangeproofWidthsRow.pinnedBy)=true:=by kernel_rfl
end Go.Proofs.YtdoacbdkbbpamaaGreatDoor
