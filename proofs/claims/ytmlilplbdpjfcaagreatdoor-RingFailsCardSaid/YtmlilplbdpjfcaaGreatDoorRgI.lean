/-
  Chapter 20: the reference's bytes of a record, and the page of a room.
  Chapter 20: the page of a room, the reference's way.
  Chapter 20: the bytes of a log, the reference's way.
-/
import Derived.Test.YtmlilplbdpjfcaaGreatDoorRgG
import Derived.Test.YtmlilplbdpjfcaaGreatDoorRg26
import Derived.Test.YtmlilplbdpjfcaaGreatDoorRg30
import Derived.Test.YtmlilplbdpjfcaaGreatDoorRgR
import Derived.Test.YtmlilplbdpjfcaaGreatDoorRg11
namespace Go.Proofs.YtmlilplbdpjfcaaGreatDoor
set_option linter.unusedVariables false
set_option linter.unusedSimpArgs false
set_option maxRecDepth 4000
open Go.RowKit Go.Sort
end Go.Proofs.YtmlilplbdpjfcaaGreatDoor
namespace Go.Proofs.YtmlilplbdpjfcaaGreatDoor
set_option linter.unusedVariables false
set_option linter.unusedSimpArgs false
set_option maxRecDepth 4000
open Go.RowKit Go.Sort
end Go.Proofs.YtmlilplbdpjfcaaGreatDoor
namespace Go.Proofs.YtmlilplbdpjfcaaGreatDoor
set_option linter.unusedVariables false
set_option linter.unusedSimpArgs false
set_option maxRecDepth 4000
open Go.RowKit Go.Sort
end Go.Proofs.YtmlilplbdpjfcaaGreatDoor
