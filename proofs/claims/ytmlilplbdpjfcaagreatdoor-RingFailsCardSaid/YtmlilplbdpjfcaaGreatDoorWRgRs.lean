/-
  RingRestarts: the walk.
-/
import Derived.Test.YtmlilplbdpjfcaaGreatDoorRg29
import Derived.Test.YtmlilplbdpjfcaaGreatDoorRg25
import Derived.Test.YtmlilplbdpjfcaaGreatDoorRgR
namespace Go.Proofs.YtmlilplbdpjfcaaGreatDoor
set_option linter.unusedVariables false
set_option linter.unusedSimpArgs false
set_option maxRecDepth 4000
open Go.RowKit Go.Sort
def clX (r : RngP) : RngP := if (chkR r).2 = 0 then cloR r else rng0
def clE (r : RngP) : Int := if (chkR r).2 = 0 then cloE r else (chkR r).2
def rsX (r : RngP) (c o : Int) : RngP := if rs2E r c o = 0 then rsaV r c o else rng0
theorem clo2_any (r : RngP) (A : Option Addr) (c : Nat) (w : World) (hr : Rd w w.heap.size A (recsV r.rs)) (hlen : r.rs.length ≤ 1000) (hx : ∀ x ∈ r.rs, I6 x.l) :
 Calls Tryz.prog 13 #[ringV r A c] w fun e w' => ∃ A' c', e = .returned (.tuple #[ringV (clX r) A' c', .int .i64 (clE r)]) ∧ w'.ownsRow w.heap.size 98 3 (.slice A' (clX r).rs.length c') (clX r).rs.length (recsV (clX r).rs) ∧ Below w.heap.size w w' := Closed_any r A c w hr hlen hx
theorem rst2_any (r : RngP) (A : Option Addr) (c : Nat) (cp ol : Int) (w : World) (hr : Rd w w.heap.size A (recsV r.rs)) (hlen : r.rs.length ≤ 1000) (hx : ∀ x ∈ r.rs, I6 x.l) :
 Calls Tryz.prog 15 #[ringV r A c, .int .i64 cp, .int .i64 ol] w fun e w' => ∃ A' c', e = .returned (.tuple #[ringV (rsX r cp ol) A' c', .int .i64 (rs2E r cp ol)]) ∧ w'.ownsRow w.heap.size 98 3 (.slice A' (rsX r cp ol).rs.length c') (rsX r cp ol).rs.length (recsV (rsX r cp ol).rs) ∧ Below w.heap.size w w' := Restarted_any r A c cp ol w hr hlen hx
end Go.Proofs.YtmlilplbdpjfcaaGreatDoor
