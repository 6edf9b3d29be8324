/-
  RecoveryTables: the row (the frame began as the kit's proof-skeleton).
-/
import Derived.Test.YtcfdpfmchchkaaaGreatDoorRows
import Derived.Test.YtcfdpfmchchkaaaGreatDoorRecoveryTablesL
import Derived.Test.YtcfdpfmchchkaaaGreatDoorRecoveryTablesC
import Derived.WalkKit
import Derived.ProofKit
import Derived.OpenShut
import Derived.ShutString
import Derived.ChangeOld
import Derived.Below
import Derived.Lib.SmallJoins
import Derived.Test.YtcfdpfmchchkaaaGreatDoorTie
import Derived.Test.YtcfdpfmchchkaaaGreatDoorCards
import Derived.LaidMore
import Derived.Lay
import Derived.SevenTiedAt
import Derived.Stop.Joined
namespace Go.Proofs.YtcfdpfmchchkaaaGreatDoor.recoveryTables
open Go.ChangeShapes Go.WideShapes Go.ChangeAt Go.RowKit
open Go.ChangeMaps (open_string shut_string)
set_option linter.unusedVariables false
set_option linter.unusedSimpArgs false
theorem over : Rows.recoveryTablesRow.holds Tryz.pinned (OpenSpec.ofChange Rows.recoveryTablesSpec) :=
 OpenClaim.holds_of_wide 3 Tryz.f3 rfl rfl rfl rfl rfl rfl rfl ⟨rfl, rfl, rfl, rfl, rfl⟩ rfl rfl rfl rfl rfl cl0 Tryz.func3 (joined_of (by kernel_rfl) clo_laidOut clo_mapsRowed (by kernel_rfl) (by kernel_rfl) (by kernel_rfl) clo_stops (by kernel_rfl) clo_knobs cl10 cl11 cl12 cl13 (by kernel_rfl) (by kernel_rfl) (by kernel_rfl) (by kernel_rfl) (by kernel_rfl) (by kernel_rfl) (by kernel_rfl) (by kernel_rfl) (by kernel_rfl) clo_keys (by kernel_rfl) clo_heard clo_enter clo_lifts clo_make (by kernel_rfl) (by kernel_rfl) (by kernel_rfl) (by kernel_rfl))
  (of_decide_eq_true (by kernel_rfl)) (by unfold Func.isWrapper; first | (rw [if_pos (by decide +kernel)]; kernel_rfl) | (rw [if_neg (by decide +kernel)]; exact ⟨rfl, rfl⟩))
  (fun os started H enc _ => lifted os started H enc)
theorem proved : Rows.RecoveryTablesCardSaid :=
 Claim7.holds_tied_plain_at .later [] [.data, .widerDeep, .pinned] true _ false over (fun _ h => by cases h) cl15 (fun _ h => by cases h) recoveryTables_row_tie rfl ⟨rfl, rfl⟩ clo_main rfl
  (fun f fn hf hfn => by
   obtain rfl : f = 3 := Option.some.inj ((show _ = some 3 from cl0).symm.trans hf) |>.symm
   obtain rfl : fn = Tryz.f3 := (Option.some.inj (Tryz.func3.symm.trans hfn)).symm
   exact ⟨clo_looks, fun j t ht => by
    rw [Tryz.params3] at ht
    have hm : t ∈ [25, 9] := by simpa using Array.mem_of_getElem? ht
    have hall : ([25, 9].all fun u => !Tryz.prog.wantsStandIn u) = true := by kernel_rfl
    exact (show Tryz.prog.wantsStandIn t = false by simpa using List.all_eq_true.1 hall t hm)⟩)
  cl14
end Go.Proofs.YtcfdpfmchchkaaaGreatDoor.recoveryTables
