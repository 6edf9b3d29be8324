/-
  Chapter 20: the reference's restart areas and records.
-/
import Derived.Test.YtmlilplbdpjfcaaGreatDoorRg25
namespace Go.Proofs.YtmlilplbdpjfcaaGreatDoor
set_option linter.unusedVariables false
set_option linter.unusedSimpArgs false
set_option maxRecDepth 4000
open Go.RowKit Go.Sort
attribute [local irreducible] nAt opL
end Go.Proofs.YtmlilplbdpjfcaaGreatDoor
