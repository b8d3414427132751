/- dominolaw27.SquarerangeProves: the row and its tied card: closed facts. -/
import Derived.Test.YtdgddpnjkinciaaGreatDoorAtt
set_option linter.all false
set_option maxRecDepth 100000
set_option maxHeartbeats 16000000
namespace Go.Proofs.YtdgddpnjkinciaaGreatDoor
open Go.RowKit Go.WideShapes Go.ChangeShapes Go.ChangeAt Go.Joins Go.Deep
open Go.ChangeMaps (open_string shut_string)
theorem sqpv_k0:(Rows.squarerangeProvesRow.inPlace==Tryz.prog.inPlace 3)=true:=by kernel_rfl
theorem sqpv_k1:(Rows.squarerangeProvesRow.unfollowed==Tryz.prog.unfollowed 3)=true:=by kernel_rfl
theorem sqpv_k2:(Rows.squarerangeProvesRow.recurses==Tryz.prog.recurses 3)=true:=by kernel_rfl
theorem sqpv_k3:(Rows.squarerangeProvesRow.named==Tryz.prog.varsNamed 3)=true:=by kernel_rfl
theorem sqpv_k4:(laidOutB Tryz.prog)=true:=by kernel_rfl
theorem sqpv_k5:(mapsRowed Tryz.prog)=true:=by kernel_rfl
theorem sqpv_k6:(Tryz.prog.stopsHeard)=true:=by kernel_rfl
theorem sqpv_k7:(Tryz.prog.mayEnter)=true:=by kernel_rfl
theorem sqpv_k8:(Rows.squarerangeProvesRow.lifted==Tryz.prog.liftsFinal)=true:=by kernel_rfl
theorem sqpv_k9:(Rows.squarerangeProvesRow.plainKeys==Tryz.prog.plainKeys)=true:=by kernel_rfl
theorem sqpv_k10:(Rows.squarerangeProvesRow.pinned==Rows.squarerangeProvesRow.pinnedBy)=true:=by kernel_rfl
end Go.Proofs.YtdgddpnjkinciaaGreatDoor
