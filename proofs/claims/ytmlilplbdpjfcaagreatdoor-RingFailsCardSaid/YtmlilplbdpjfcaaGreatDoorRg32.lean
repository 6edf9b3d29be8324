/-
  Chapter 20: the log that is read, the reference's way.
-/
import Derived.Test.YtmlilplbdpjfcaaGreatDoorRg31
import Derived.Test.YtmlilplbdpjfcaaGreatDoorRg25
import Derived.Test.YtmlilplbdpjfcaaGreatDoorRgB
namespace Go.Proofs.YtmlilplbdpjfcaaGreatDoor
set_option linter.unusedVariables false
set_option linter.unusedSimpArgs false
set_option maxRecDepth 4000
open Go.RowKit Go.Sort
attribute [local irreducible] nAt opL opB
theorem arB_ok {s : List UInt8} {pg : Int} {i : Nat} {y : RstP} (h : arIn s pg i = some y) : rstB y = true := by
 unfold arIn at h
 split at h
 · rename_i hc
   injection h with h
   have hE := hc.1
   rw [← h]
   unfold rsoR
   rw [if_pos hE]
   have h2 : rstE (rsoV (opL (blkL s i))) = 0 := by
    unfold rsoE at hE
    repeat' split at hE
    all_goals first | omega | skip
    all_goals (rename_i h3 _; simpa using h3)
   exact (unl_zero (by decide)).1 h2
 · cases h
end Go.Proofs.YtmlilplbdpjfcaaGreatDoor
