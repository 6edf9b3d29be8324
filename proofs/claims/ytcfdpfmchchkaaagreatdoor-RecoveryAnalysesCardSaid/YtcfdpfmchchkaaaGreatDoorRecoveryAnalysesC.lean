/-
  RecoveryAnalyses: closed facts of the row.
-/
import Derived.Test.YtcfdpfmchchkaaaGreatDoorRcClo
namespace Go.Proofs.YtcfdpfmchchkaaaGreatDoor.recoveryAnalyses
open Go.ChangeShapes Go.WideShapes Go.ChangeAt Go.RowKit
open Go.ChangeMaps (open_string shut_string)
set_option linter.unusedVariables false
set_option linter.unusedSimpArgs false
theorem cl10:(Rows.recoveryAnalysesRow.inPlace==Tryz.prog.inPlace 4)=true:=by kernel_rfl
theorem cl11:(Rows.recoveryAnalysesRow.unfollowed==Tryz.prog.unfollowed 4)=true:=by kernel_rfl
theorem cl12:(Rows.recoveryAnalysesRow.recurses==Tryz.prog.recurses 4)=true:=by kernel_rfl
theorem cl13:(Rows.recoveryAnalysesRow.named==Tryz.prog.varsNamed 4)=true:=by kernel_rfl
theorem cl0:Tryz.prog.funcNamed Rows.recoveryAnalysesRow.func=some 4:=by kernel_rfl
theorem cl14:false=Rows.recoveryAnalysesRow.goesBy Tryz.prog:=by kernel_rfl
theorem cl15:Rows.recoveryAnalysesRow.wfByText (OpenSpec.ofChange Rows.recoveryAnalysesSpec)=true:=by kernel_rfl
end Go.Proofs.YtcfdpfmchchkaaaGreatDoor.recoveryAnalyses
