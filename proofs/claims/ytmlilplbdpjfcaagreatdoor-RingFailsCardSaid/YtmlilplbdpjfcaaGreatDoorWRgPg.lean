/-
  RingPages: the walk.
-/
import Derived.Test.YtmlilplbdpjfcaaGreatDoorRg29
import Derived.Test.YtmlilplbdpjfcaaGreatDoorRg33
import Derived.Test.YtmlilplbdpjfcaaGreatDoorRgF
namespace Go.Proofs.YtmlilplbdpjfcaaGreatDoor
set_option linter.unusedVariables false
set_option linter.unusedSimpArgs false
set_option maxRecDepth 4000
open Go.RowKit Go.Sort
def rbS (r : RngP) : List UInt8 := if (chkR r).2 = 0 then (rbL r).flatten else []
theorem rbs_any (r : RngP) (A : Option Addr) (c : Nat) (w : World) (hr : Rd w w.heap.size A (recsV r.rs)) (hlen : r.rs.length ≤ 1000) (hx : ∀ x ∈ r.rs, I6 x.l) :
 Calls Tryz.prog 46 #[ringV r A c] w fun e w' => e = .returned (.tuple #[.string (bs (rbS r)), .int .i64 (chkR r).2]) ∧ Below w.heap.size w w' :=
 (RingBytes_any r A c w hr hlen hx).mono fun e w' ⟨h1, h2⟩ => ⟨by
  rw [h1]
  unfold rbS
  split <;> rfl, h2⟩
end Go.Proofs.YtmlilplbdpjfcaaGreatDoor
