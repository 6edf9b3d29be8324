/-
  Chapter 22, plain: the examples of the chapter, evaluated.
-/
import Derived.Test.YtcfdpfmchchkaaaGreatDoorRcL
namespace Go.Proofs.YtcfdpfmchchkaaaGreatDoor
set_option maxRecDepth 4000
set_option linter.unusedVariables false
set_option linter.unusedSimpArgs false
open Go.RowKit Go.Sort Go.Shelf
def awT:Tbl:=⟨[⟨1,81,1,true⟩,⟨2,113,113,false⟩],[⟨3,false,1⟩,⟨9,true,41⟩]⟩
theorem Cl:kX awH 0=(awT,0):=by decide +kernel
theorem aw_tbl:dw awT=0∧(AF awT).length=38:=by decide +kernel
theorem aw_uo:lN awH awT=[113,41]∧vq awH awT=0:=by decide +kernel
theorem aw_rdo:(iF awH awT awP).2=(3,0)∧(iF awH awT awP).1.length=2∧((iF awH awT awP).1.map fun q=>(q.b.size,((bl q.b).drop 70).take 1)).head? = some (512,[98]):=by decide +kernel
theorem aw_mng:(kv awH awP).2=(1,0)∧((kv awH awP).1.map fun q=>(q.b.size,((bl q.b).drop 64).take 7)).head? = some (512,[97,0,0,0,0,0,0]):=by decide +kernel
end Go.Proofs.YtcfdpfmchchkaaaGreatDoor
