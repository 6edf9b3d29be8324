/-
  Chapter 20: the log that is read, the reference's way.
-/
import Derived.Test.YtmlilplbdpjfcaaGreatDoorRg32
namespace Go.Proofs.YtmlilplbdpjfcaaGreatDoor
set_option linter.unusedVariables false
set_option linter.unusedSimpArgs false
set_option maxRecDepth 4000
open Go.RowKit Go.Sort
attribute [local irreducible] nAt opL opB
end Go.Proofs.YtmlilplbdpjfcaaGreatDoor
