/-
  Chapter 21: an operation held against the zero value.
-/
import Derived.Test.YtgmipogidmcilaaDoorOpAll2
import Derived.Test.YtgmipogidmcilaaDoorOpArg2
namespace Go.Proofs.YtgmipogidmcilaaDoor
set_option linter.unusedVariables false
set_option linter.unusedSimpArgs false
open Go.RowKit Go.Sort

def opNil (o : Op) : Bool := o.k == 0 && o.a == 0 && o.e == 0 && o.c == 0 && o.o.size == 0 && o.n.size == 0
set_option maxHeartbeats 4000000 in
theorem op_nil_run (x : Op) (W : World) :
    (binOp .eql 27 (.agg #[.int .i64 x.k, .int .i64 x.a, .int .i64 x.e, .int .i64 x.c, .string x.o, .string x.n]) (.agg #[.int .i64 0, .int .i64 0, .int .i64 0, .int .i64 0, .string ⟨#[]⟩, .string ⟨#[]⟩])).run Tryd.prog W = .ok (.bool (opNil x)) W := by
  unfold opNil
  cases h1 : (x.k == 0)
  all_goals cases h2 : (x.a == 0)
  all_goals cases h3 : (x.e == 0)
  all_goals cases h4 : (x.c == 0)
  all_goals cases h5 : (x.o.toList.isEmpty)
  all_goals cases h6 : (x.n.toList.isEmpty)
  all_goals
    rw [isEmpty_eq] at h5 h6
    go_simp
    try (simp_all [toList_nil])
end Go.Proofs.YtgmipogidmcilaaDoor
