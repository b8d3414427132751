/- dominolaw27.SquarerangePrepares: the row and its tied card: closed facts. -/
import Derived.Test.YtfgandecbkbleaaGreatDoorLdvl
import Derived.Test.YtfgandecbkbleaaGreatDoorSmT
set_option linter.unusedVariables false
set_option linter.unusedSimpArgs false
set_option maxRecDepth 100000
set_option maxHeartbeats 16000000
namespace Go.Proofs.YtfgandecbkbleaaGreatDoor
open Go.RowKit Go.WideShapes Go.ChangeShapes Go.ChangeAt Go.Joins Go.Deep
open Go.ChangeMaps (open_string shut_string)
theorem sqpp_k0:(Rows.squarerangePreparesRow.inPlace==Tryz.prog.inPlace 4)=true:=by kernel_rfl
theorem sqpp_k1:(Rows.squarerangePreparesRow.unfollowed==Tryz.prog.unfollowed 4)=true:=by kernel_rfl
theorem sqpp_k2:(Rows.squarerangePreparesRow.recurses==Tryz.prog.recurses 4)=true:=by kernel_rfl
theorem sqpp_k3:(Rows.squarerangePreparesRow.named==Tryz.prog.varsNamed 4)=true:=by kernel_rfl
theorem sqpp_k4:(laidOutB Tryz.prog)=true:=by kernel_rfl
theorem sqpp_k5:(mapsRowed Tryz.prog)=true:=by kernel_rfl
theorem sqpp_k6:(Tryz.prog.stopsHeard)=true:=by kernel_rfl
theorem sqpp_k7:(Tryz.prog.mayEnter)=true:=by kernel_rfl
theorem sqpp_k8:(Rows.squarerangePreparesRow.lifted==Tryz.prog.liftsFinal)=true:=by kernel_rfl
theorem sqpp_k9:(Rows.squarerangePreparesRow.plainKeys==Tryz.prog.plainKeys)=true:=by kernel_rfl
theorem sqpp_k10:(Rows.squarerangePreparesRow.pinned==Rows.squarerangePreparesRow.pinnedBy)=true:=by kernel_rfl
end Go.Proofs.YtfgandecbkbleaaGreatDoor
