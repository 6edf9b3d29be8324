/-
  Chapter 22, plain: the examples of the chapter, evaluated.
-/
import Derived.Test.YtcfdpfmchchkaaaGreatDoorRcL
namespace Go.Proofs.YtcfdpfmchchkaaaGreatDoor
set_option maxRecDepth 4000
set_option linter.unusedVariables false
set_option linter.unusedSimpArgs false
open Go.RowKit Go.Sort Go.Shelf
def awT:Tbl:=⟨[⟨1,81,1,true⟩,⟨2,113,113,false⟩],[⟨3,false,1⟩,⟨9,true,41⟩]⟩
theorem BN:k7 awH 0=(awT,0):=by decide +kernel
theorem aw_tbl:dy awT=0∧(A4 awT).length=38:=by decide +kernel
theorem aw_uo:lS awH awT=[113,41]∧wH awH awT=0:=by decide +kernel
theorem aw_rdo:(iH awH awT awP).2=(3,0)∧(iH awH awT awP).1.length=2∧((iH awH awT awP).1.map fun q=>(q.b.size,((bl q.b).drop 70).take 1)).head? = some (512,[98]):=by decide +kernel
theorem aw_mng:(kB awH awP).2=(1,0)∧((kB awH awP).1.map fun q=>(q.b.size,((bl q.b).drop 64).take 7)).head? = some (512,[97,0,0,0,0,0,0]):=by decide +kernel
end Go.Proofs.YtcfdpfmchchkaaaGreatDoor
