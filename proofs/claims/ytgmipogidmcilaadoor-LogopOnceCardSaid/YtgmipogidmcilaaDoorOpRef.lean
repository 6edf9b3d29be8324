/-
  Chapter 21: the errors of operations, as the references have them: formErr, bytesErr, OpErr.
-/
import Derived.Test.YtgmipogidmcilaaDoorTiny
import Derived.Test.YtgmipogidmcilaaDoorBox
import Derived.Test.YtgmipogidmcilaaDoorOp3
namespace Go.Proofs.YtgmipogidmcilaaDoor
set_option linter.unusedVariables false
set_option linter.unusedSimpArgs false
open Go.RowKit Go.Sort

theorem opE_if (x : Op) : opE x = if inB x.k 0 6 = false then 15 else if opForm x = false then 3 else if opShape x = false then 10 else if opHas x.k = true ∧ opLong x = 0 then 17
    else if opHas x.k = true ∧ 200 < opLong x then 8 else if opRng x = false then 2 else 0 := by
  unfold opE
  cases hk : inB x.k 0 6
  · rfl
  · rw [if_neg (by decide), if_neg (by decide)]
    have h1 : (!opHas x.k || decide (0 < opLong x)) = !(decide (opHas x.k = true ∧ opLong x = 0)) := by
      cases opHas x.k
      · simp
      · rw [Bool.eq_iff_iff]; simp only [Bool.not_true, Bool.false_or, true_and, Bool.not_eq_true', decide_eq_true_eq, decide_eq_false_iff_not]; omega
    have h2 : (!opHas x.k || decide (opLong x ≤ 200)) = !(decide (opHas x.k = true ∧ 200 < opLong x)) := by
      cases opHas x.k
      · simp
      · rw [Bool.eq_iff_iff]; simp only [Bool.not_true, Bool.false_or, true_and, Bool.not_eq_true', decide_eq_true_eq, decide_eq_false_iff_not]; omega
    rw [h1, h2]
    cases opForm x
    · simp [firstE, unl]
    · cases opShape x
      · simp [firstE, unl]
      · by_cases g1 : opHas x.k = true ∧ opLong x = 0
        · simp [firstE, unl, g1]
        · by_cases g2 : opHas x.k = true ∧ 200 < opLong x
          · simp only [firstE, unl, decide_eq_false g1, decide_eq_true g2, if_neg g1, if_pos g2]; simp
          · simp only [firstE, unl, decide_eq_false g1, decide_eq_false g2, if_neg g1, if_neg g2]
            cases opRng x <;> simp

def bytE (c : Int) (r : Bool) : Int := if c = 0 then 17 else if 200 < c then 8 else unl r 2
set_option maxRecDepth 100000 in
theorem bytesErr_any (x : Op) (c : Int) (r : Bool) (w : World) (hc : 0 ≤ c) :
    Calls Tryd.prog 62 #[.agg #[.int .i64 x.k, .int .i64 x.a, .int .i64 x.e, .int .i64 x.c, .string x.o, .string x.n], .int .i64 c, .bool r] w fun e w' => e = .returned (.int .i64 (bytE c r)) ∧ Below w.heap.size w w' := by
  by_cases h0 : c = 0
  · subst h0
    go_enter Tryd.func62, Tryd.ntmps62
    go_wp2
    go_ret
    exact ⟨rfl, by (repeat (first | assumption | exact Below.refl _ _ | refine bel_drewN ?_ _ | refine bel_alloc ?_ _ | refine bel_trans ?_ (by assumption) | refine Below.trans ?_ (by assumption)))⟩
  · have h0' : (c == 0) = false := by simp [h0]
    by_cases h1 : 200 < c
    · have e : bytE c r = 8 := by unfold bytE; rw [if_neg h0, if_pos h1]
      have E := Lib.hid e
      clear e h0
      go_enter Tryd.func62, Tryd.ntmps62
      go_wp2
      go_ret
      exact ⟨retI E.out.symm, by (repeat (first | assumption | exact Below.refl _ _ | refine bel_drewN ?_ _ | refine bel_alloc ?_ _ | refine bel_trans ?_ (by assumption) | refine Below.trans ?_ (by assumption)))⟩
    · have e : bytE c r = unl r 2 := by unfold bytE; rw [if_neg h0, if_neg h1]
      have E := Lib.hid e
      clear e h0
      cases r
      · go_enter Tryd.func62, Tryd.ntmps62
        go_wp2
        go_ret
        exact ⟨retI E.out.symm, by (repeat (first | assumption | exact Below.refl _ _ | refine bel_drewN ?_ _ | refine bel_alloc ?_ _ | refine bel_trans ?_ (by assumption) | refine Below.trans ?_ (by assumption)))⟩
      · go_enter Tryd.func62, Tryd.ntmps62
        go_wp2
        go_ret
        exact ⟨retI E.out.symm, by (repeat (first | assumption | exact Below.refl _ _ | refine bel_drewN ?_ _ | refine bel_alloc ?_ _ | refine bel_trans ?_ (by assumption) | refine Below.trans ?_ (by assumption)))⟩

set_option maxRecDepth 100000 in
theorem formErr_0 (a e c : Int) (o n : ByteArray) (w : World) :
    Calls Tryd.prog 61 #[.agg #[.int .i64 0, .int .i64 a, .int .i64 e, .int .i64 c, .string o, .string n]] w fun r w' => r = .returned (.int .i64 (unl (opForm ⟨0, a, e, c, o, n⟩) 3)) ∧ Below w.heap.size w w' := by
  go_enter Tryd.func61, Tryd.ntmps61
  go_wp2
  all_goals
    go_ret
    refine ⟨retI ?_, by (repeat (first | assumption | exact Below.refl _ _ | refine bel_drewN ?_ _ | refine bel_alloc ?_ _ | refine bel_trans ?_ (by assumption) | refine Below.trans ?_ (by assumption)))⟩
    (try simp only [toList_nil, isEmpty_eq] at *)
    simp_all [opForm, opAt, opEnd, opCount, opOld, opNew, inB, unl]
set_option maxRecDepth 100000 in
theorem formErr_1 (a e c : Int) (o n : ByteArray) (w : World) :
    Calls Tryd.prog 61 #[.agg #[.int .i64 1, .int .i64 a, .int .i64 e, .int .i64 c, .string o, .string n]] w fun r w' => r = .returned (.int .i64 (unl (opForm ⟨1, a, e, c, o, n⟩) 3)) ∧ Below w.heap.size w w' := by
  go_enter Tryd.func61, Tryd.ntmps61
  go_wp2
  all_goals
    go_ret
    refine ⟨retI ?_, by (repeat (first | assumption | exact Below.refl _ _ | refine bel_drewN ?_ _ | refine bel_alloc ?_ _ | refine bel_trans ?_ (by assumption) | refine Below.trans ?_ (by assumption)))⟩
    (try simp only [toList_nil, isEmpty_eq] at *)
    simp_all [opForm, opAt, opEnd, opCount, opOld, opNew, inB, unl]
set_option maxRecDepth 100000 in
theorem formErr_2 (a e c : Int) (o n : ByteArray) (w : World) :
    Calls Tryd.prog 61 #[.agg #[.int .i64 2, .int .i64 a, .int .i64 e, .int .i64 c, .string o, .string n]] w fun r w' => r = .returned (.int .i64 (unl (opForm ⟨2, a, e, c, o, n⟩) 3)) ∧ Below w.heap.size w w' := by
  go_enter Tryd.func61, Tryd.ntmps61
  go_wp2
  all_goals
    go_ret
    refine ⟨retI ?_, by (repeat (first | assumption | exact Below.refl _ _ | refine bel_drewN ?_ _ | refine bel_alloc ?_ _ | refine bel_trans ?_ (by assumption) | refine Below.trans ?_ (by assumption)))⟩
    (try simp only [toList_nil, isEmpty_eq] at *)
    simp_all [opForm, opAt, opEnd, opCount, opOld, opNew, inB, unl]
set_option maxRecDepth 100000 in
theorem formErr_3 (a e c : Int) (o n : ByteArray) (w : World) :
    Calls Tryd.prog 61 #[.agg #[.int .i64 3, .int .i64 a, .int .i64 e, .int .i64 c, .string o, .string n]] w fun r w' => r = .returned (.int .i64 (unl (opForm ⟨3, a, e, c, o, n⟩) 3)) ∧ Below w.heap.size w w' := by
  go_enter Tryd.func61, Tryd.ntmps61
  go_wp2
  all_goals
    go_ret
    refine ⟨retI ?_, by (repeat (first | assumption | exact Below.refl _ _ | refine bel_drewN ?_ _ | refine bel_alloc ?_ _ | refine bel_trans ?_ (by assumption) | refine Below.trans ?_ (by assumption)))⟩
    (try simp only [toList_nil, isEmpty_eq] at *)
    simp_all [opForm, opAt, opEnd, opCount, opOld, opNew, inB, unl]
set_option maxRecDepth 100000 in
theorem formErr_4 (a e c : Int) (o n : ByteArray) (w : World) :
    Calls Tryd.prog 61 #[.agg #[.int .i64 4, .int .i64 a, .int .i64 e, .int .i64 c, .string o, .string n]] w fun r w' => r = .returned (.int .i64 (unl (opForm ⟨4, a, e, c, o, n⟩) 3)) ∧ Below w.heap.size w w' := by
  go_enter Tryd.func61, Tryd.ntmps61
  go_wp2
  all_goals
    go_ret
    refine ⟨retI ?_, by (repeat (first | assumption | exact Below.refl _ _ | refine bel_drewN ?_ _ | refine bel_alloc ?_ _ | refine bel_trans ?_ (by assumption) | refine Below.trans ?_ (by assumption)))⟩
    (try simp only [toList_nil, isEmpty_eq] at *)
    simp_all [opForm, opAt, opEnd, opCount, opOld, opNew, inB, unl]
set_option maxRecDepth 100000 in
theorem formErr_5 (a e c : Int) (o n : ByteArray) (w : World) :
    Calls Tryd.prog 61 #[.agg #[.int .i64 5, .int .i64 a, .int .i64 e, .int .i64 c, .string o, .string n]] w fun r w' => r = .returned (.int .i64 (unl (opForm ⟨5, a, e, c, o, n⟩) 3)) ∧ Below w.heap.size w w' := by
  go_enter Tryd.func61, Tryd.ntmps61
  go_wp2
  all_goals
    go_ret
    refine ⟨retI ?_, by (repeat (first | assumption | exact Below.refl _ _ | refine bel_drewN ?_ _ | refine bel_alloc ?_ _ | refine bel_trans ?_ (by assumption) | refine Below.trans ?_ (by assumption)))⟩
    (try simp only [toList_nil, isEmpty_eq] at *)
    simp_all [opForm, opAt, opEnd, opCount, opOld, opNew, inB, unl]
set_option maxRecDepth 100000 in
theorem formErr_6 (a e c : Int) (o n : ByteArray) (w : World) :
    Calls Tryd.prog 61 #[.agg #[.int .i64 6, .int .i64 a, .int .i64 e, .int .i64 c, .string o, .string n]] w fun r w' => r = .returned (.int .i64 (unl (opForm ⟨6, a, e, c, o, n⟩) 3)) ∧ Below w.heap.size w w' := by
  go_enter Tryd.func61, Tryd.ntmps61
  go_wp2
  all_goals
    go_ret
    refine ⟨retI ?_, by (repeat (first | assumption | exact Below.refl _ _ | refine bel_drewN ?_ _ | refine bel_alloc ?_ _ | refine bel_trans ?_ (by assumption) | refine Below.trans ?_ (by assumption)))⟩
    (try simp only [toList_nil, isEmpty_eq] at *)
    simp_all [opForm, opAt, opEnd, opCount, opOld, opNew, inB, unl]
end Go.Proofs.YtgmipogidmcilaaDoor
