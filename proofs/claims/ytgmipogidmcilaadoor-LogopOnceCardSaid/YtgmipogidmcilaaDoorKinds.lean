/-
  Chapter 21: kinds, the table of the fields of operations.
-/
import Derived.Test.YtgmipogidmcilaaDoorOpErr
import Derived.Handy
import Derived.Laws.Tables
import Derived.Laws.CopyOwn
import Derived.Deep.DeepCutAuto
namespace Go.Proofs.YtgmipogidmcilaaDoor
set_option linter.unusedVariables false
set_option linter.unusedSimpArgs false
open Go.RowKit
section
variable {P : Program}
theorem wpList_buildC {ops : Array Oper} {rest : List Oper} {o : Oper} {a : Act} {w : World} {Q : Exit → Act → World → Prop} (hg : o.guard = none) (t : TypeId) (parts : Array (Nat × Operand)) (ho : o.op = .build t parts)
    (cells : Array Value) (hc : P.built t (parts.map fun (i, x) => (i, a.eval x)).toList = some cells)
    (h : wpList P ops Q rest (a.put o.dst (.agg cells)) w) : wpList P ops Q (o :: rest) a w :=
  wpList_build hg t parts ho (by rw [hc]; rfl) (by rw [hc]; exact h)
end
def kindsCells : Array Value := #[.bool false, .bool false, .bool false, .bool false, .bool false, .bool true, .bool false, .bool false, .bool true, .bool true,
    .bool true, .bool true, .bool false, .bool false, .bool true, .bool true, .bool true, .bool false, .bool true, .bool false, .bool true, .bool false, .bool true, .bool false, .bool false,
    .bool true, .bool false, .bool true, .bool false, .bool false, .bool false, .bool false, .bool false, .bool true, .bool true]
def kindsOld : Array Value := Array.replicate 35 (.bool false)
theorem kinds_any (w : World) : Calls Tryd.prog 58 #[] w fun e w' => e = .returned (.agg kindsCells) ∧ Below w.heap.size w w' := by
  go_enter Tryd.func58, Tryd.ntmps58
  go_upto_region 1 with (fail)
  apply wp_region_lit
  refine wpList_buildC rfl 100 _ rfl #[.bool false, .bool false, .bool false, .bool false, .bool false] (by kernel_rfl) ?_
  refine wpList_buildC rfl 100 _ rfl #[.bool true, .bool false, .bool false, .bool true, .bool true] (by kernel_rfl) ?_
  refine wpList_buildC rfl 100 _ rfl #[.bool true, .bool true, .bool false, .bool false, .bool true] (by kernel_rfl) ?_
  refine wpList_buildC rfl 100 _ rfl #[.bool true, .bool true, .bool false, .bool true, .bool false] (by kernel_rfl) ?_
  refine wpList_buildC rfl 100 _ rfl #[.bool true, .bool false, .bool true, .bool false, .bool false] (by kernel_rfl) ?_
  refine wpList_buildC rfl 100 _ rfl #[.bool true, .bool false, .bool true, .bool false, .bool false] (by kernel_rfl) ?_
  refine wpList_buildC rfl 100 _ rfl #[.bool false, .bool false, .bool false, .bool true, .bool true] (by kernel_rfl) ?_
  refine wpList_buildC rfl 101 _ rfl kindsCells (by kernel_rfl) ?_
  refine wpList_store_row rfl 101 _ _ rfl w.heap.size kindsCells (by kernel_rfl) (by kernel_rfl) 101 _ (heap_alloc_new w _) (by kernel_rfl) (by kernel_rfl) (by kernel_rfl) ?_
  apply wpList_nil
  have hr := setRow_heap _ w.heap.size _ kindsCells 101 (0, 0) (heap_alloc_new w (.cells kindsOld 101))
  have hb := below_setRow (g := w.heap.size) (bel_alloc (Below.refl w.heap.size w) (.cells kindsOld 101)) (Nat.le_refl _) kindsCells
  go_wp2
  refine bodyPost_ret (results_cell_row Tryd.results58 _ _ w.heap.size 101 _ (0, 0) _ (by kernel_rfl) hr Tryd.underlying101 rfl (by kernel_rfl)) rfl ?_
  exact ⟨rfl, hb⟩
end Go.Proofs.YtgmipogidmcilaaDoor
