/-
  RecoveryTables: closed facts of the row.
-/
import Derived.Test.YtcfdpfmchchkaaaGreatDoorRows
import Derived.ProofKit
import Derived.Test.YtcfdpfmchchkaaaGreatDoorRcClo
namespace Go.Proofs.YtcfdpfmchchkaaaGreatDoor.recoveryTables
open Go.ChangeShapes Go.WideShapes Go.ChangeAt Go.RowKit
open Go.ChangeMaps (open_string shut_string)
set_option linter.unusedVariables false
set_option linter.unusedSimpArgs false
theorem cl10 : (Rows.recoveryTablesRow.inPlace == Tryz.prog.inPlace 3) = true := by kernel_rfl
theorem cl11 : (Rows.recoveryTablesRow.unfollowed == Tryz.prog.unfollowed 3) = true := by kernel_rfl
theorem cl12 : (Rows.recoveryTablesRow.recurses == Tryz.prog.recurses 3) = true := by kernel_rfl
theorem cl13 : (Rows.recoveryTablesRow.named == Tryz.prog.varsNamed 3) = true := by kernel_rfl
theorem cl0 : Tryz.prog.funcNamed Rows.recoveryTablesRow.func = some 3 := by kernel_rfl
theorem cl14 : false = Rows.recoveryTablesRow.goesBy Tryz.prog := by kernel_rfl
theorem cl15 : Rows.recoveryTablesRow.wfByText (OpenSpec.ofChange Rows.recoveryTablesSpec) = true := by kernel_rfl
end Go.Proofs.YtcfdpfmchchkaaaGreatDoor.recoveryTables
