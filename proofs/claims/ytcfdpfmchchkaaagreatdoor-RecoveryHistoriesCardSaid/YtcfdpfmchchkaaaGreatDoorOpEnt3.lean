/-
  Chapter 21: the bytes of entries and of operations.
-/
import Derived.Test.YtcfdpfmchchkaaaGreatDoorOpH
import Derived.Test.YtcfdpfmchchkaaaGreatDoorOpI
namespace Go.Proofs.YtcfdpfmchchkaaaGreatDoor
set_option linter.unusedVariables false
set_option linter.unusedSimpArgs false
open Go.RowKit Go.Sort
end Go.Proofs.YtcfdpfmchchkaaaGreatDoor
