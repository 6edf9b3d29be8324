/-
  Chapter 20: the reference's validity of logs.
-/
import Derived.Test.YtmlilplbdpjfcaaGreatDoorRg24
namespace Go.Proofs.YtmlilplbdpjfcaaGreatDoor
set_option linter.unusedVariables false
set_option linter.unusedSimpArgs false
set_option maxRecDepth 4000
open Go.RowKit Go.Sort
end Go.Proofs.YtmlilplbdpjfcaaGreatDoor
