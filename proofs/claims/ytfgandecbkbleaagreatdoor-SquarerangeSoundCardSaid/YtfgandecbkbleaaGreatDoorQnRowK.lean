/- dominolaw27.SquarerangeSound: the row and its tied card: closed facts. -/
import Derived.Test.YtfgandecbkbleaaGreatDoorLdvl
import Derived.Test.YtfgandecbkbleaaGreatDoorLd16
set_option linter.unusedVariables false
set_option linter.unusedSimpArgs false
set_option maxRecDepth 100000
set_option maxHeartbeats 16000000
namespace Go.Proofs.YtfgandecbkbleaaGreatDoor
open Go.RowKit Go.WideShapes Go.ChangeShapes Go.ChangeAt Go.Joins Go.Deep
open Go.ChangeMaps (open_string shut_string)
theorem sqsn_k0:(Rows.squarerangeSoundRow.inPlace==Tryz.prog.inPlace 7)=true:=by kernel_rfl
theorem sqsn_k1:(Rows.squarerangeSoundRow.unfollowed==Tryz.prog.unfollowed 7)=true:=by kernel_rfl
theorem sqsn_k2:(Rows.squarerangeSoundRow.recurses==Tryz.prog.recurses 7)=true:=by kernel_rfl
theorem sqsn_k3:(Rows.squarerangeSoundRow.named==Tryz.prog.varsNamed 7)=true:=by kernel_rfl
theorem sqsn_k4:(laidOutB Tryz.prog)=true:=by kernel_rfl
theorem sqsn_k5:(mapsRowed Tryz.prog)=true:=by kernel_rfl
theorem sqsn_k6:(Tryz.prog.stopsHeard)=true:=by kernel_rfl
theorem sqsn_k7:(Tryz.prog.mayEnter)=true:=by kernel_rfl
theorem sqsn_k8:(Rows.squarerangeSoundRow.lifted==Tryz.prog.liftsFinal)=true:=by kernel_rfl
theorem sqsn_k9:(Rows.squarerangeSoundRow.plainKeys==Tryz.prog.plainKeys)=true:=by kernel_rfl
theorem sqsn_k10:(Rows.squarerangeSoundRow.pinned==Rows.squarerangeSoundRow.pinnedBy)=true:=by kernel_rfl
end Go.Proofs.YtfgandecbkbleaaGreatDoor
