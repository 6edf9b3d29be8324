/-
  Chapter 20: the statements' limits.
-/
import Derived.Test.YtmlilplbdpjfcaaGreatDoorRg28
import Derived.Test.YtmlilplbdpjfcaaGreatDoorArgA
namespace Go.Proofs.YtmlilplbdpjfcaaGreatDoor
set_option linter.unusedVariables false
set_option linter.unusedSimpArgs false
set_option maxRecDepth 4000
open Go.RowKit Go.Sort
end Go.Proofs.YtmlilplbdpjfcaaGreatDoor
