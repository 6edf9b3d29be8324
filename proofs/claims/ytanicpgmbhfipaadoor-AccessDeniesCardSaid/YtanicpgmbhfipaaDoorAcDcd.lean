/-
  Chapter 17: CheckDecided.
-/
import Derived.Test.YtanicpgmbhfipaaDoorAcB
namespace Go.Proofs.YtanicpgmbhfipaaDoor
set_option linter.unusedVariables false
set_option linter.unusedSimpArgs false
open Go.RowKit Go.Sort

def dcdE (L : List Int) (i : Nat) (n : Int) : Int := unl (n == L.getD i 0) 19
def ckE (d : DscP) (t : TokP) (l : List Int) : Int := firstE [botE d t, unl ((l.length : Int) == 9) 10]
def ckP (d : DscP) (t : TokP) (l : List Int) : Int × Int := if ckE d t l = 0 then eachE (dcdE (decP d t)) 0 l else (0, ckE d t l)
end Go.Proofs.YtanicpgmbhfipaaDoor
