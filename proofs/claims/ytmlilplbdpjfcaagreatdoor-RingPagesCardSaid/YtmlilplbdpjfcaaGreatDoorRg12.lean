/-
  Chapter 20: the writes of a log.
-/
import Derived.Test.YtmlilplbdpjfcaaGreatDoorRg11
namespace Go.Proofs.YtmlilplbdpjfcaaGreatDoor
set_option linter.unusedVariables false
set_option linter.unusedSimpArgs false
set_option maxRecDepth 4000
open Go.RowKit Go.Sort
end Go.Proofs.YtmlilplbdpjfcaaGreatDoor
