/-
  Regions that draw their order: what comes first only reads and calls functions that keep all old memory; what stands last (a store, a new slice, a call on it) comes last in whatever order. One walk in the order of the text serves all orders.
  Regions that draw their order, among whose operations one lays a new block whenever it likes ('x := f(..)', x in a block of its own): whatever comes first only reads and calls functions that keep all old memory; what stands behind the new block comes last, in order. One walk serves all orders.
-/
import Derived.Test.YtmlilplbdpjfcaaGreatDoorKitA
import Derived.StillTail
import Derived.BigQuiet
import Derived.Lib.QuietBelow
namespace Go.Proofs.YtmlilplbdpjfcaaGreatDoor
open Go.RowKit Go.Sort
section
variable {P : Program} {ops : Array Oper} {md : Region.Mode} {C : World → Prop}
end
@[go_sem] theorem cell?_reg (w : World) (d : Nat) (os : Array Obj) (b o : Nat) (h : b < w.heap.size) : (grow (redrawn w d) os).cell? ⟨b, o, none⟩ = w.cell? ⟨b, o, none⟩ :=
 (below_regrown w d os).cell (p := ⟨b, o, none⟩) h
end Go.Proofs.YtmlilplbdpjfcaaGreatDoor
namespace Go.Proofs.YtmlilplbdpjfcaaGreatDoor
open Go.RowKit Go.Sort
section
variable {P : Program} {ops : Array Oper} {md : Region.Mode} {w : World}
def Grows (P : Program) (w : World) (s : Sem Next) (v : Value) : Prop := ∀ X, Below w.heap.size w X → Oper.quietUpon P (fun X' => Below X.heap.size X X') X v (s.run P X)
def YieldsG (P : Program) (ops : Array Oper) (w : World) (o : Oper) (v : Value) (a : Act) : Prop :=
 (Region.wanted o (yielded ops a.tmps) = true ∧ Grows P w (execOp a.eval o) v) ∨ (Region.wanted o (yielded ops a.tmps) = false ∧ v = undef)
theorem YieldsG.of_same {o : Oper} {v : Value} {a a' : Act} (hy : YieldsG P ops w o v a) (he : execOp a'.eval o = execOp a.eval o)
 (hw : Region.wanted o (yielded ops a'.tmps) = Region.wanted o (yielded ops a.tmps)) : YieldsG P ops w o v a' := by
 unfold YieldsG at *
 rw [he, hw]
 exact hy
section
variable {m g na : Nat} {oa : Oper} {obj : Obj} {L : Array Bool → Act → Prop} {Q : Exit → Act → World → Prop}
end
end
end Go.Proofs.YtmlilplbdpjfcaaGreatDoor
