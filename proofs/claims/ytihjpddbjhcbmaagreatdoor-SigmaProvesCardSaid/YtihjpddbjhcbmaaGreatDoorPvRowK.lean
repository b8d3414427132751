/- dominolaw16.SigmaProves: the row and its tied card: closed facts. -/
import Derived.Test.YtihjpddbjhcbmaaGreatDoorLd16
set_option linter.unusedVariables false
set_option linter.unusedSimpArgs false
set_option maxRecDepth 100000
set_option maxHeartbeats 16000000
namespace Go.Proofs.YtihjpddbjhcbmaaGreatDoor
open Go.RowKit Go.WideShapes Go.ChangeShapes Go.ChangeAt Go.Joins Go.Deep
open Go.ChangeMaps (open_string shut_string)
theorem sprv_k0:(Rows.sigmaProvesRow.inPlace==Tryz.prog.inPlace 3)=true:=by kernel_rfl
theorem sprv_k1:(Rows.sigmaProvesRow.unfollowed==Tryz.prog.unfollowed 3)=true:=by kernel_rfl
theorem sprv_k2:(Rows.sigmaProvesRow.recurses==Tryz.prog.recurses 3)=true:=by kernel_rfl
theorem sprv_k3:(Rows.sigmaProvesRow.named==Tryz.prog.varsNamed 3)=true:=by kernel_rfl
theorem sprv_k4:(laidOutB Tryz.prog)=true:=by kernel_rfl
theorem sprv_k5:(mapsRowed Tryz.prog)=true:=by kernel_rfl
theorem sprv_k6:(Tryz.prog.stopsHeard)=true:=by kernel_rfl
theorem sprv_k7:(Tryz.prog.mayEnter)=true:=by kernel_rfl
theorem sprv_k8:(Rows.sigmaProvesRow.lifted==Tryz.prog.liftsFinal)=true:=by kernel_rfl
theorem sprv_k9:(Rows.sigmaProvesRow.plainKeys==Tryz.prog.plainKeys)=true:=by kernel_rfl
theorem sprv_k10:(Rows.sigmaProvesRow.pinned==Rows.sigmaProvesRow.pinnedBy)=true:=by kernel_rfl
end Go.Proofs.YtihjpddbjhcbmaaGreatDoor
