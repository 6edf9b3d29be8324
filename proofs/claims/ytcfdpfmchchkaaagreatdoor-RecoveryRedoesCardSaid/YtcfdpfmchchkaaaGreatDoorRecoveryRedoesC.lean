/-
  RecoveryRedoes: closed facts of the row.
-/
import Derived.Test.YtcfdpfmchchkaaaGreatDoorRcClo
namespace Go.Proofs.YtcfdpfmchchkaaaGreatDoor.recoveryRedoes
open Go.ChangeShapes Go.WideShapes Go.ChangeAt Go.RowKit
open Go.ChangeMaps (open_string shut_string)
set_option linter.unusedVariables false
set_option linter.unusedSimpArgs false
theorem cl10:(Rows.recoveryRedoesRow.inPlace==Tryz.prog.inPlace 5)=true:=by kernel_rfl
theorem cl11:(Rows.recoveryRedoesRow.unfollowed==Tryz.prog.unfollowed 5)=true:=by kernel_rfl
theorem cl12:(Rows.recoveryRedoesRow.recurses==Tryz.prog.recurses 5)=true:=by kernel_rfl
theorem cl13:(Rows.recoveryRedoesRow.named==Tryz.prog.varsNamed 5)=true:=by kernel_rfl
theorem cl0:Tryz.prog.funcNamed Rows.recoveryRedoesRow.func=some 5:=by kernel_rfl
theorem cl14:false=Rows.recoveryRedoesRow.goesBy Tryz.prog:=by kernel_rfl
theorem cl15:Rows.recoveryRedoesRow.wfByText (OpenSpec.ofChange Rows.recoveryRedoesSpec)=true:=by kernel_rfl
end Go.Proofs.YtcfdpfmchchkaaaGreatDoor.recoveryRedoes
