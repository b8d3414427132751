/- dominolaw27.SquarerangeComplete: the row and its tied card: closed facts. -/
import Derived.Test.YteahlbhjhjhljaaGreatDoorWi27
set_option linter.unusedVariables false
set_option linter.unusedSimpArgs false
set_option maxRecDepth 100000
set_option maxHeartbeats 16000000
namespace Go.Proofs.YteahlbhjhjhljaaGreatDoor
open Go.RowKit Go.WideShapes Go.ChangeShapes Go.ChangeAt Go.Joins Go.Deep
open Go.ChangeMaps (open_string shut_string)
theorem sqcp_k0:(Rows.squarerangeCompleteRow.inPlace==Tryz.prog.inPlace 3)=true:=by kernel_rfl
theorem sqcp_k1:(Rows.squarerangeCompleteRow.unfollowed==Tryz.prog.unfollowed 3)=true:=by kernel_rfl
theorem sqcp_k2:(Rows.squarerangeCompleteRow.recurses==Tryz.prog.recurses 3)=true:=by kernel_rfl
theorem sqcp_k3:(Rows.squarerangeCompleteRow.named==Tryz.prog.varsNamed 3)=true:=by kernel_rfl
theorem sqcp_k4:(laidOutB Tryz.prog)=true:=by kernel_rfl
theorem sqcp_k5:(mapsRowed Tryz.prog)=true:=by kernel_rfl
theorem sqcp_k6:(Tryz.prog.stopsHeard)=true:=by kernel_rfl
theorem sqcp_k7:(Tryz.prog.mayEnter)=true:=by kernel_rfl
theorem sqcp_k8:(Rows.squarerangeCompleteRow.lifted==Tryz.prog.liftsFinal)=true:=by kernel_rfl
theorem sqcp_k9:(Rows.squarerangeCompleteRow.plainKeys==Tryz.prog.plainKeys)=true:=by kernel_rfl
theorem sqcp_k10:(Rows.squarerangeCompleteRow.pinned==Rows.squarerangeCompleteRow.pinnedBy)=true:=by kernel_rfl
end Go.Proofs.YteahlbhjhjhljaaGreatDoor
