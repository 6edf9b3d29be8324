/-
  RecoveryAnalyses: the row (the frame began as the kit's proof-skeleton).
-/
import Derived.Test.YtcfdpfmchchkaaaGreatDoorRecoveryAnalysesL
import Derived.Test.YtcfdpfmchchkaaaGreatDoorRecoveryAnalysesC
namespace Go.Proofs.YtcfdpfmchchkaaaGreatDoor.recoveryAnalyses
open Go.ChangeShapes Go.WideShapes Go.ChangeAt Go.RowKit
open Go.ChangeMaps (open_string shut_string)
set_option linter.unusedVariables false
set_option linter.unusedSimpArgs false
theorem over:Rows.recoveryAnalysesRow.holds Tryz.pinned (OpenSpec.ofChange Rows.recoveryAnalysesSpec):=
 OpenClaim.holds_of_wide 4 Tryz.f4 rfl rfl rfl rfl rfl rfl rfl ⟨rfl,rfl,rfl,rfl,rfl⟩ rfl rfl rfl rfl rfl cl0 Tryz.func4 (tP (by kernel_rfl) kS mR (by kernel_rfl) (by kernel_rfl) (by kernel_rfl) uf (by kernel_rfl) uS cl10 cl11 cl12 cl13 (by kernel_rfl) (by kernel_rfl) (by kernel_rfl) (by kernel_rfl) (by kernel_rfl) (by kernel_rfl) (by kernel_rfl) (by kernel_rfl) (by kernel_rfl) xD (by kernel_rfl) tw ti uO vt (by kernel_rfl) (by kernel_rfl) (by kernel_rfl) (by kernel_rfl))
  (of_decide_eq_true (by kernel_rfl)) (by unfold Func.isWrapper;first | (rw[if_pos (by decide +kernel)];kernel_rfl) | (rw[if_neg (by decide +kernel)];exact⟨rfl,rfl⟩))
  (fun os started H enc _=>lifted os started H enc)
theorem proved:Rows.RecoveryAnalysesCardSaid:=
 Claim7.holds_tied_plain_at .later [] [.data,.widerDeep,.pinned] true _ false over (fun _ h=>by cases h) cl15 (fun _ h=>by cases h) recoveryAnalyses_row_tie rfl ⟨rfl,rfl⟩ xJ rfl
  (fun f fn hf hfn=>by
   obtain rfl:f=4:=Option.some.inj ((show _=some 4 from cl0).symm.trans hf) |>.symm;obtain rfl:fn=Tryz.f4:=(Option.some.inj (Tryz.func4.symm.trans hfn)).symm
   exact⟨uT,fun j t ht=>by
    rw[Tryz.params4] at ht
    have hm:t∈[41,3]:=by simpa using Array.mem_of_getElem? ht
    have hall:([41,3].all fun u=>!Tryz.prog.wantsStandIn u)=true:=by kernel_rfl
    exact(show Tryz.prog.wantsStandIn t=false by simpa using List.all_eq_true.1 hall t hm)⟩)
  cl14
end Go.Proofs.YtcfdpfmchchkaaaGreatDoor.recoveryAnalyses
