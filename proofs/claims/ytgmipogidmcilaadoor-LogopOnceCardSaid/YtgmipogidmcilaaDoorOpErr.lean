/-
  Chapter 21: the errors of operations: moved, rangeErr, kinds, CheckOp; formErr, bytesErr, OpErr.
-/
import Derived.Test.YtgmipogidmcilaaDoorTiny
import Derived.Test.YtgmipogidmcilaaDoorKit
import Derived.Test.YtgmipogidmcilaaDoorOp
namespace Go.Proofs.YtgmipogidmcilaaDoor
set_option linter.unusedVariables false
set_option linter.unusedSimpArgs false
open Go.RowKit

theorem moved_any (k a e c : Int) (o n : ByteArray) (w : World) (ho : o.size ≤ 3100) (hn : n.size ≤ 3100) :
    Calls Tryd.prog 79 #[.agg #[.int .i64 k, .int .i64 a, .int .i64 e, .int .i64 c, .string o, .string n]] w fun e w' => e = .returned (.string (o ++ n)) ∧ Below w.heap.size w w' := by
  have hnn : ¬ (9223372036854775807 < o.size + n.size) := by omega
  go_enter Tryd.func79, Tryd.ntmps79
  go_wp2
  go_ret
  exact ⟨rfl, by (repeat (first | assumption | exact Below.refl _ _ | refine bel_drewN ?_ _ | refine bel_alloc ?_ _ | refine bel_trans ?_ (by assumption) | refine Below.trans ?_ (by assumption)))⟩

theorem rangeErr_1 (a e c : Int) (o n : ByteArray) (w : World) (ho : o.size ≤ 3100) (hn : n.size ≤ 3100) :
    Calls Tryd.prog 59 #[.agg #[.int .i64 1, .int .i64 a, .int .i64 e, .int .i64 c, .string o, .string n]] w fun r w' => r = .returned (.int .i64 (unl (opRng ⟨1, a, e, c, o, n⟩) 2)) ∧ Below w.heap.size w w' := by
  have hsz : (o ++ n).size = o.size + n.size := ByteArray.size_append
  cases h : inB a 0 511
  · have hr : opRng ⟨1, a, e, c, o, n⟩ = false := by simp [opRng, h]
    have HR := Lib.hid hr
    clear hr
    go_enter Tryd.func59, Tryd.ntmps59
    go_wp2_with (first | (go_at_call 57; refine (logop_within_any _ _ _ _).mono ?_; rintro e w' ⟨rfl, rfl⟩) | (go_at_call 79; refine (moved_any _ _ _ _ o n _ ho hn).mono ?_; rintro e W1 ⟨rfl, hbW1⟩; obtain ⟨hcW1, hfW1⟩ := bcell hbW1) | (go_at_call 54; refine (logop_unless_any _ _ _).mono ?_; rintro e w' ⟨rfl, rfl⟩))
    go_ret
    exact ⟨retI (by rw [HR.out]), by (repeat (first | assumption | exact Below.refl _ _ | refine bel_drewN ?_ _ | refine bel_alloc ?_ _ | refine bel_trans ?_ (by assumption) | refine Below.trans ?_ (by assumption)))⟩
  · have hb := inB_true.1 h
    go_enter Tryd.func59, Tryd.ntmps59
    go_wp2_with (first | (go_at_call 57; refine (logop_within_any _ _ _ _).mono ?_; rintro e w' ⟨rfl, rfl⟩) | (go_at_call 79; refine (moved_any _ _ _ _ o n _ ho hn).mono ?_; rintro e W1 ⟨rfl, hbW1⟩; obtain ⟨hcW1, hfW1⟩ := bcell hbW1) | (go_at_call 54; refine (logop_unless_any _ _ _).mono ?_; rintro e w' ⟨rfl, rfl⟩))
    go_ret
    exact ⟨retI (by simp [opRng, h]), by (repeat (first | assumption | exact Below.refl _ _ | refine bel_drewN ?_ _ | refine bel_alloc ?_ _ | refine bel_trans ?_ (by assumption) | refine Below.trans ?_ (by assumption)))⟩
theorem rangeErr_2 (a e c : Int) (o n : ByteArray) (w : World) (ho : o.size ≤ 3100) (hn : n.size ≤ 3100) :
    Calls Tryd.prog 59 #[.agg #[.int .i64 2, .int .i64 a, .int .i64 e, .int .i64 c, .string o, .string n]] w fun r w' => r = .returned (.int .i64 (unl (opRng ⟨2, a, e, c, o, n⟩) 2)) ∧ Below w.heap.size w w' := by
  have hsz : (o ++ n).size = o.size + n.size := ByteArray.size_append
  cases h : inB a 0 511
  · have hr : opRng ⟨2, a, e, c, o, n⟩ = false := by simp [opRng, h]
    have HR := Lib.hid hr
    clear hr
    go_enter Tryd.func59, Tryd.ntmps59
    go_wp2_with (first | (go_at_call 57; refine (logop_within_any _ _ _ _).mono ?_; rintro e w' ⟨rfl, rfl⟩) | (go_at_call 79; refine (moved_any _ _ _ _ o n _ ho hn).mono ?_; rintro e W1 ⟨rfl, hbW1⟩; obtain ⟨hcW1, hfW1⟩ := bcell hbW1) | (go_at_call 54; refine (logop_unless_any _ _ _).mono ?_; rintro e w' ⟨rfl, rfl⟩))
    go_ret
    exact ⟨retI (by rw [HR.out]), by (repeat (first | assumption | exact Below.refl _ _ | refine bel_drewN ?_ _ | refine bel_alloc ?_ _ | refine bel_trans ?_ (by assumption) | refine Below.trans ?_ (by assumption)))⟩
  · have hb := inB_true.1 h
    go_enter Tryd.func59, Tryd.ntmps59
    go_wp2_with (first | (go_at_call 57; refine (logop_within_any _ _ _ _).mono ?_; rintro e w' ⟨rfl, rfl⟩) | (go_at_call 79; refine (moved_any _ _ _ _ o n _ ho hn).mono ?_; rintro e W1 ⟨rfl, hbW1⟩; obtain ⟨hcW1, hfW1⟩ := bcell hbW1) | (go_at_call 54; refine (logop_unless_any _ _ _).mono ?_; rintro e w' ⟨rfl, rfl⟩))
    go_ret
    exact ⟨retI (by simp [opRng, h]), by (repeat (first | assumption | exact Below.refl _ _ | refine bel_drewN ?_ _ | refine bel_alloc ?_ _ | refine bel_trans ?_ (by assumption) | refine Below.trans ?_ (by assumption)))⟩
theorem rangeErr_3 (a e c : Int) (o n : ByteArray) (w : World) (ho : o.size ≤ 3100) (hn : n.size ≤ 3100) :
    Calls Tryd.prog 59 #[.agg #[.int .i64 3, .int .i64 a, .int .i64 e, .int .i64 c, .string o, .string n]] w fun r w' => r = .returned (.int .i64 (unl (opRng ⟨3, a, e, c, o, n⟩) 2)) ∧ Below w.heap.size w w' := by
  have hsz : (o ++ n).size = o.size + n.size := ByteArray.size_append
  cases h : inB a 0 511
  · have hr : opRng ⟨3, a, e, c, o, n⟩ = false := by simp [opRng, h]
    have HR := Lib.hid hr
    clear hr
    go_enter Tryd.func59, Tryd.ntmps59
    go_wp2_with (first | (go_at_call 57; refine (logop_within_any _ _ _ _).mono ?_; rintro e w' ⟨rfl, rfl⟩) | (go_at_call 79; refine (moved_any _ _ _ _ o n _ ho hn).mono ?_; rintro e W1 ⟨rfl, hbW1⟩; obtain ⟨hcW1, hfW1⟩ := bcell hbW1) | (go_at_call 54; refine (logop_unless_any _ _ _).mono ?_; rintro e w' ⟨rfl, rfl⟩))
    go_ret
    exact ⟨retI (by rw [HR.out]), by (repeat (first | assumption | exact Below.refl _ _ | refine bel_drewN ?_ _ | refine bel_alloc ?_ _ | refine bel_trans ?_ (by assumption) | refine Below.trans ?_ (by assumption)))⟩
  · have hb := inB_true.1 h
    go_enter Tryd.func59, Tryd.ntmps59
    go_wp2_with (first | (go_at_call 57; refine (logop_within_any _ _ _ _).mono ?_; rintro e w' ⟨rfl, rfl⟩) | (go_at_call 79; refine (moved_any _ _ _ _ o n _ ho hn).mono ?_; rintro e W1 ⟨rfl, hbW1⟩; obtain ⟨hcW1, hfW1⟩ := bcell hbW1) | (go_at_call 54; refine (logop_unless_any _ _ _).mono ?_; rintro e w' ⟨rfl, rfl⟩))
    go_ret
    exact ⟨retI (by simp [opRng, h]), by (repeat (first | assumption | exact Below.refl _ _ | refine bel_drewN ?_ _ | refine bel_alloc ?_ _ | refine bel_trans ?_ (by assumption) | refine Below.trans ?_ (by assumption)))⟩
theorem rangeErr_4 (a e c : Int) (o n : ByteArray) (w : World) (ho : o.size ≤ 3100) (hn : n.size ≤ 3100) :
    Calls Tryd.prog 59 #[.agg #[.int .i64 4, .int .i64 a, .int .i64 e, .int .i64 c, .string o, .string n]] w fun r w' => r = .returned (.int .i64 (unl (opRng ⟨4, a, e, c, o, n⟩) 2)) ∧ Below w.heap.size w w' := by
  have hsz : (o ++ n).size = o.size + n.size := ByteArray.size_append
  cases h : inB a 0 4095
  · have hr : opRng ⟨4, a, e, c, o, n⟩ = false := by simp [opRng, h]
    have HR := Lib.hid hr
    clear hr
    go_enter Tryd.func59, Tryd.ntmps59
    go_wp2_with (first | (go_at_call 57; refine (logop_within_any _ _ _ _).mono ?_; rintro e w' ⟨rfl, rfl⟩) | (go_at_call 79; refine (moved_any _ _ _ _ o n _ ho hn).mono ?_; rintro e W1 ⟨rfl, hbW1⟩; obtain ⟨hcW1, hfW1⟩ := bcell hbW1) | (go_at_call 54; refine (logop_unless_any _ _ _).mono ?_; rintro e w' ⟨rfl, rfl⟩))
    go_ret
    exact ⟨retI (by rw [HR.out]), by (repeat (first | assumption | exact Below.refl _ _ | refine bel_drewN ?_ _ | refine bel_alloc ?_ _ | refine bel_trans ?_ (by assumption) | refine Below.trans ?_ (by assumption)))⟩
  · have hb := inB_true.1 h
    go_enter Tryd.func59, Tryd.ntmps59
    go_wp2_with (first | (go_at_call 57; refine (logop_within_any _ _ _ _).mono ?_; rintro e w' ⟨rfl, rfl⟩) | (go_at_call 79; refine (moved_any _ _ _ _ o n _ ho hn).mono ?_; rintro e W1 ⟨rfl, hbW1⟩; obtain ⟨hcW1, hfW1⟩ := bcell hbW1) | (go_at_call 54; refine (logop_unless_any _ _ _).mono ?_; rintro e w' ⟨rfl, rfl⟩))
    go_ret
    exact ⟨retI (by simp [opRng, h]), by (repeat (first | assumption | exact Below.refl _ _ | refine bel_drewN ?_ _ | refine bel_alloc ?_ _ | refine bel_trans ?_ (by assumption) | refine Below.trans ?_ (by assumption)))⟩
theorem rangeErr_5 (a e c : Int) (o n : ByteArray) (w : World) (ho : o.size ≤ 3100) (hn : n.size ≤ 3100) :
    Calls Tryd.prog 59 #[.agg #[.int .i64 5, .int .i64 a, .int .i64 e, .int .i64 c, .string o, .string n]] w fun r w' => r = .returned (.int .i64 (unl (opRng ⟨5, a, e, c, o, n⟩) 2)) ∧ Below w.heap.size w w' := by
  have hsz : (o ++ n).size = o.size + n.size := ByteArray.size_append
  cases h : inB a 0 4095
  · have hr : opRng ⟨5, a, e, c, o, n⟩ = false := by simp [opRng, h]
    have HR := Lib.hid hr
    clear hr
    go_enter Tryd.func59, Tryd.ntmps59
    go_wp2_with (first | (go_at_call 57; refine (logop_within_any _ _ _ _).mono ?_; rintro e w' ⟨rfl, rfl⟩) | (go_at_call 79; refine (moved_any _ _ _ _ o n _ ho hn).mono ?_; rintro e W1 ⟨rfl, hbW1⟩; obtain ⟨hcW1, hfW1⟩ := bcell hbW1) | (go_at_call 54; refine (logop_unless_any _ _ _).mono ?_; rintro e w' ⟨rfl, rfl⟩))
    go_ret
    exact ⟨retI (by rw [HR.out]), by (repeat (first | assumption | exact Below.refl _ _ | refine bel_drewN ?_ _ | refine bel_alloc ?_ _ | refine bel_trans ?_ (by assumption) | refine Below.trans ?_ (by assumption)))⟩
  · have hb := inB_true.1 h
    go_enter Tryd.func59, Tryd.ntmps59
    go_wp2_with (first | (go_at_call 57; refine (logop_within_any _ _ _ _).mono ?_; rintro e w' ⟨rfl, rfl⟩) | (go_at_call 79; refine (moved_any _ _ _ _ o n _ ho hn).mono ?_; rintro e W1 ⟨rfl, hbW1⟩; obtain ⟨hcW1, hfW1⟩ := bcell hbW1) | (go_at_call 54; refine (logop_unless_any _ _ _).mono ?_; rintro e w' ⟨rfl, rfl⟩))
    go_ret
    exact ⟨retI (by simp [opRng, h]), by (repeat (first | assumption | exact Below.refl _ _ | refine bel_drewN ?_ _ | refine bel_alloc ?_ _ | refine bel_trans ?_ (by assumption) | refine Below.trans ?_ (by assumption)))⟩
theorem rangeErr_0 (a e c : Int) (o n : ByteArray) (w : World) (ho : o.size ≤ 3100) (hn : n.size ≤ 3100) :
    Calls Tryd.prog 59 #[.agg #[.int .i64 0, .int .i64 a, .int .i64 e, .int .i64 c, .string o, .string n]] w fun r w' => r = .returned (.int .i64 (unl (opRng ⟨0, a, e, c, o, n⟩) 2)) ∧ Below w.heap.size w w' := by
  have hsz : (o ++ n).size = o.size + n.size := ByteArray.size_append
  go_enter Tryd.func59, Tryd.ntmps59
  go_wp2_with (first | (go_at_call 57; refine (logop_within_any _ _ _ _).mono ?_; rintro e w' ⟨rfl, rfl⟩) | (go_at_call 79; refine (moved_any _ _ _ _ o n _ ho hn).mono ?_; rintro e W1 ⟨rfl, hbW1⟩; obtain ⟨hcW1, hfW1⟩ := bcell hbW1) | (go_at_call 54; refine (logop_unless_any _ _ _).mono ?_; rintro e w' ⟨rfl, rfl⟩))
  go_ret
  exact ⟨rfl, by (repeat (first | assumption | exact Below.refl _ _ | refine bel_drewN ?_ _ | refine bel_alloc ?_ _ | refine bel_trans ?_ (by assumption) | refine Below.trans ?_ (by assumption)))⟩
theorem rangeErr_6 (a e c : Int) (o n : ByteArray) (w : World) (ho : o.size ≤ 3100) (hn : n.size ≤ 3100) :
    Calls Tryd.prog 59 #[.agg #[.int .i64 6, .int .i64 a, .int .i64 e, .int .i64 c, .string o, .string n]] w fun r w' => r = .returned (.int .i64 (unl (opRng ⟨6, a, e, c, o, n⟩) 2)) ∧ Below w.heap.size w w' := by
  have hsz : (o ++ n).size = o.size + n.size := ByteArray.size_append
  go_enter Tryd.func59, Tryd.ntmps59
  go_wp2_with (first | (go_at_call 57; refine (logop_within_any _ _ _ _).mono ?_; rintro e w' ⟨rfl, rfl⟩) | (go_at_call 79; refine (moved_any _ _ _ _ o n _ ho hn).mono ?_; rintro e W1 ⟨rfl, hbW1⟩; obtain ⟨hcW1, hfW1⟩ := bcell hbW1) | (go_at_call 54; refine (logop_unless_any _ _ _).mono ?_; rintro e w' ⟨rfl, rfl⟩))
  go_ret
  exact ⟨rfl, by (repeat (first | assumption | exact Below.refl _ _ | refine bel_drewN ?_ _ | refine bel_alloc ?_ _ | refine bel_trans ?_ (by assumption) | refine Below.trans ?_ (by assumption)))⟩
end Go.Proofs.YtgmipogidmcilaaDoor
