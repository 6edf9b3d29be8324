/-
  Values that came in, opened: slices, arrays and structs whose elements are read by a reader of their cells.
  Chapter 20: restart areas and logs that came in.
-/
import Derived.Test.YtmlilplbdpjfcaaGreatDoorKitA
import Derived.WalkKit
import Derived.ProofKit
import Derived.Deep.Slices
import Derived.Deep.SlicePairs
import Derived.Lib.SmallJoins
import Derived.OpenShut
import Derived.Test.YtmlilplbdpjfcaaGreatDoorRgA
namespace Go.Proofs.YtmlilplbdpjfcaaGreatDoor
set_option linter.unusedVariables false
set_option linter.unusedSimpArgs false
open Go.ChangeShapes Go.WideShapes Go.ChangeAt Go.RowKit
end Go.Proofs.YtmlilplbdpjfcaaGreatDoor
namespace Go.Proofs.YtmlilplbdpjfcaaGreatDoor
set_option linter.unusedVariables false
set_option linter.unusedSimpArgs false
open Go.ChangeShapes Go.WideShapes Go.ChangeAt Go.RowKit
def RstI (x : RstP) : Prop := (-9223372036854775808 ≤ x.s ∧ x.s < 9223372036854775808) ∧ (-9223372036854775808 ≤ x.c ∧ x.c < 9223372036854775808) ∧ (-9223372036854775808 ≤ x.o ∧ x.o < 9223372036854775808)
structure RngA where
  r : RngP
  A : Option Addr
  c : Nat
structure RngI (r : RngP) : Prop where
  pg : -9223372036854775808 ≤ r.pg ∧ r.pg < 9223372036854775808
  rr : RstI r.r
  ee : RstI r.e
  nx : -9223372036854775808 ≤ r.nx ∧ r.nx < 9223372036854775808
  len : r.rs.length ≤ maxLen
  rs : ∀ x ∈ r.rs, (-9223372036854775808 ≤ x.l ∧ x.l < 9223372036854775808) ∧ (-9223372036854775808 ≤ x.s ∧ x.s < 9223372036854775808) ∧ x.b.size ≤ maxLen
end Go.Proofs.YtmlilplbdpjfcaaGreatDoor
