/-
  Chapter 20: the reference's reading: bytes of the stream, a standing record.
-/
import Derived.Test.YtmlilplbdpjfcaaGreatDoorRg30
namespace Go.Proofs.YtmlilplbdpjfcaaGreatDoor
set_option linter.unusedVariables false
set_option linter.unusedSimpArgs false
set_option maxRecDepth 4000
open Go.RowKit Go.Sort
attribute [local irreducible] nAt opL opB
end Go.Proofs.YtmlilplbdpjfcaaGreatDoor
