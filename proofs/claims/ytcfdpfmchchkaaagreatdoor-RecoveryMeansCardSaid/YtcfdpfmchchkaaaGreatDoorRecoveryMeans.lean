/-
  RecoveryMeans: the row (the frame began as the kit's proof-skeleton).
-/
import Derived.Test.YtcfdpfmchchkaaaGreatDoorRecoveryMeansL
import Derived.Test.YtcfdpfmchchkaaaGreatDoorRecoveryMeansC
namespace Go.Proofs.YtcfdpfmchchkaaaGreatDoor.recoveryMeans
open Go.ChangeShapes Go.WideShapes Go.ChangeAt Go.RowKit
open Go.ChangeMaps (open_string shut_string)
set_option linter.unusedVariables false
set_option linter.unusedSimpArgs false
theorem over:Rows.recoveryMeansRow.holds Tryz.pinned (OpenSpec.ofChange Rows.recoveryMeansSpec):=
 OpenClaim.holds_of_wide 6 Tryz.f6 rfl rfl rfl rfl rfl rfl rfl ⟨rfl,rfl,rfl,rfl,rfl⟩ rfl rfl rfl rfl rfl cl0 Tryz.func6 (tY (by kernel_rfl) kY ng (by kernel_rfl) (by kernel_rfl) (by kernel_rfl) uI (by kernel_rfl) um cl10 cl11 cl12 cl13 (by kernel_rfl) (by kernel_rfl) (by kernel_rfl) (by kernel_rfl) (by kernel_rfl) (by kernel_rfl) (by kernel_rfl) (by kernel_rfl) (by kernel_rfl) wz (by kernel_rfl) vA ux uX wC (by kernel_rfl) (by kernel_rfl) (by kernel_rfl) (by kernel_rfl))
  (of_decide_eq_true (by kernel_rfl)) (by unfold Func.isWrapper;first | (rw[if_pos (by decide +kernel)];kernel_rfl) | (rw[if_neg (by decide +kernel)];exact⟨rfl,rfl⟩))
  (fun os started H enc _=>lifted os started H enc)
theorem proved:Rows.RecoveryMeansCardSaid:=
 Claim7.holds_tied_plain_at .later [] [.data,.widerDeep,.pinned] true _ false over (fun _ h=>by cases h) cl15 (fun _ h=>by cases h) recoveryMeans_row_tie rfl ⟨rfl,rfl⟩ wi rfl
  (fun f fn hf hfn=>by
   obtain rfl:f=6:=Option.some.inj ((show _=some 6 from cl0).symm.trans hf) |>.symm;obtain rfl:fn=Tryz.f6:=(Option.some.inj (Tryz.func6.symm.trans hfn)).symm
   exact⟨uk,fun j t ht=>by
    rw[Tryz.params6] at ht
    have hm:t∈[41,48]:=by simpa using Array.mem_of_getElem? ht
    have hall:([41,48].all fun u=>!Tryz.prog.wantsStandIn u)=true:=by kernel_rfl
    exact(show Tryz.prog.wantsStandIn t=false by simpa using List.all_eq_true.1 hall t hm)⟩)
  cl14
end Go.Proofs.YtcfdpfmchchkaaaGreatDoor.recoveryMeans
