/- dominolaw27.SquarerangeStates: the row and its tied card: closed facts. -/
import Derived.Test.YtfgandecbkbleaaGreatDoorLdvl
import Derived.Test.YtfgandecbkbleaaGreatDoorLd16
set_option linter.unusedVariables false
set_option linter.unusedSimpArgs false
set_option maxRecDepth 100000
set_option maxHeartbeats 16000000
namespace Go.Proofs.YtfgandecbkbleaaGreatDoor
open Go.RowKit Go.WideShapes Go.ChangeShapes Go.ChangeAt Go.Joins Go.Deep
open Go.ChangeMaps (open_string shut_string)
theorem sqst_k0:(Rows.squarerangeStatesRow.inPlace==Tryz.prog.inPlace 5)=true:=by kernel_rfl
theorem sqst_k1:(Rows.squarerangeStatesRow.unfollowed==Tryz.prog.unfollowed 5)=true:=by kernel_rfl
theorem sqst_k2:(Rows.squarerangeStatesRow.recurses==Tryz.prog.recurses 5)=true:=by kernel_rfl
theorem sqst_k3:(Rows.squarerangeStatesRow.named==Tryz.prog.varsNamed 5)=true:=by kernel_rfl
theorem sqst_k4:(laidOutB Tryz.prog)=true:=by kernel_rfl
theorem sqst_k5:(mapsRowed Tryz.prog)=true:=by kernel_rfl
theorem sqst_k6:(Tryz.prog.stopsHeard)=true:=by kernel_rfl
theorem sqst_k7:(Tryz.prog.mayEnter)=true:=by kernel_rfl
theorem sqst_k8:(Rows.squarerangeStatesRow.lifted==Tryz.prog.liftsFinal)=true:=by kernel_rfl
theorem sqst_k9:(Rows.squarerangeStatesRow.plainKeys==Tryz.prog.plainKeys)=true:=by kernel_rfl
theorem sqst_k10:(Rows.squarerangeStatesRow.pinned==Rows.squarerangeStatesRow.pinnedBy)=true:=by kernel_rfl
end Go.Proofs.YtfgandecbkbleaaGreatDoor
