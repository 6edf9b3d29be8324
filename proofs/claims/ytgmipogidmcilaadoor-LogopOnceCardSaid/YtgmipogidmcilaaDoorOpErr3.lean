/-
  Chapter 21: CheckOp and OpErr, joined.
-/
import Derived.Test.YtgmipogidmcilaaDoorOpErr2
import Derived.Test.YtgmipogidmcilaaDoorOpRef
namespace Go.Proofs.YtgmipogidmcilaaDoor
set_option linter.unusedVariables false
set_option linter.unusedSimpArgs false
open Go.RowKit Go.Sort

set_option maxRecDepth 100000 in
theorem CheckOp_out (x : Op) (w : World) (hk : inB x.k 0 6 = false) :
    Calls Tryd.prog 21 #[opV x] w fun r w' => r = .returned (.int .i64 (opE x)) ∧ Below w.heap.size w w' := by
  have e : opE x = 15 := by unfold opE; rw [hk]; rfl
  have E := Lib.hid e
  clear e
  unfold opV
  go_enter Tryd.func21, Tryd.ntmps21
  go_wp2_with (first | (go_at_call 57; refine (logop_within_any _ _ _ _).mono ?_; rintro e w' ⟨rfl, rfl⟩))
  go_ret
  exact ⟨retI E.out.symm, by (repeat (first | assumption | exact Below.refl _ _ | refine bel_drewN ?_ _ | refine bel_alloc ?_ _ | refine bel_trans ?_ (by assumption) | refine Below.trans ?_ (by assumption)))⟩

theorem CheckOp_any (x : Op) (w : World) (ho : x.o.size ≤ 3100) (hn : x.n.size ≤ 3100) :
    Calls Tryd.prog 21 #[opV x] w fun r w' => r = .returned (.int .i64 (opE x)) ∧ Below w.heap.size w w' := by
  cases hk : inB x.k 0 6
  · exact CheckOp_out x w hk
  · obtain ⟨k, a, e, c, o, n⟩ := x
    rw [inB_true] at hk
    dsimp only at hk
    have : k = 0 ∨ k = 1 ∨ k = 2 ∨ k = 3 ∨ k = 4 ∨ k = 5 ∨ k = 6 := by omega
    rcases this with rfl | rfl | rfl | rfl | rfl | rfl | rfl
    · exact CheckOp_0 a e c o n w ho hn
    · exact CheckOp_1 a e c o n w ho hn
    · exact CheckOp_2 a e c o n w ho hn
    · exact CheckOp_3 a e c o n w ho hn
    · exact CheckOp_4 a e c o n w ho hn
    · exact CheckOp_5 a e c o n w ho hn
    · exact CheckOp_6 a e c o n w ho hn

set_option maxRecDepth 100000 in
theorem refOpErr_out (x : Op) (w : World) (hk : inB x.k 0 6 = false) :
    Calls Tryd.prog 23 #[opV x] w fun r w' => r = .returned (.int .i64 (opE x)) ∧ Below w.heap.size w w' := by
  have e : opE x = 15 := by unfold opE; rw [hk]; rfl
  have E := Lib.hid e
  clear e
  unfold opV
  go_enter Tryd.func23, Tryd.ntmps23
  go_wp2_with (first | (go_at_call 60; refine (Within_any _ _ _ _).mono ?_; rintro e w' ⟨rfl, rfl⟩))
  go_ret
  exact ⟨retI E.out.symm, by (repeat (first | assumption | exact Below.refl _ _ | refine bel_drewN ?_ _ | refine bel_alloc ?_ _ | refine bel_trans ?_ (by assumption) | refine Below.trans ?_ (by assumption)))⟩

theorem opForm_olds {k a e c : Int} {o n : ByteArray} (h : true = opForm ⟨k, a, e, c, o, n⟩) : (k = 2 → o.size = 0) ∧ (k = 3 → n.size = 0) := by
  simp only [opForm, opOld, opNew, Bool.and_eq_true, Bool.or_eq_true, beq_iff_eq] at h
  have h := h.symm
  simp only [Bool.and_eq_true, Bool.or_eq_true, beq_iff_eq] at h
  omega

set_option maxRecDepth 100000 in
set_option maxHeartbeats 1000000 in
theorem refOpErr_0 (a e c : Int) (o n : ByteArray) (w : World) (ho : o.size ≤ 3100) (hn : n.size ≤ 3100) :
    Calls Tryd.prog 23 #[.agg #[.int .i64 0, .int .i64 a, .int .i64 e, .int .i64 c, .string o, .string n]] w fun r w' => r = .returned (.int .i64 (opE ⟨0, a, e, c, o, n⟩)) ∧ Below w.heap.size w w' := by
  have hk : inB 0 0 6 = true := rfl
  obtain ⟨form, hform⟩ : ∃ b, b = opForm ⟨0, a, e, c, o, n⟩ := ⟨_, rfl⟩
  have hF := fun w => formErr_0 a e c o n w
  rw [← hform] at hF
  have HF := Lib.hid hF
  have HForm := Lib.hid hform
  clear hF hform
  cases form
  · have h3 : unl false 3 = 3 := rfl
    have h3' : (unl false 3 != 0) = true := rfl
    go_enter Tryd.func23, Tryd.ntmps23
    go_wp2_with (first | (go_at_call 60; refine (Within_any _ _ _ _).mono ?_; rintro e w' ⟨rfl, rfl⟩) | (go_at_call 61; refine (HF.out _).mono ?_; rintro e W1 ⟨rfl, hbW1⟩; obtain ⟨hcW1, hfW1⟩ := bcell hbW1))
    go_ret
    refine ⟨retI ?_, by (repeat (first | assumption | exact Below.refl _ _ | refine bel_drewN ?_ _ | refine bel_alloc ?_ _ | refine bel_trans ?_ (by assumption) | refine Below.trans ?_ (by assumption)))⟩
    rw [opE_if, ← HForm.out]
    simp [hk, unl]
  · have h3 : unl true 3 = 0 := rfl
    have h3' : (unl true 3 != 0) = false := rfl
    obtain ⟨in1, hin1⟩ : ∃ b, b = inB a 0 511 := ⟨_, rfl⟩
    obtain ⟨in2, hin2⟩ : ∃ b, b = inB a 0 4095 := ⟨_, rfl⟩
    have hW1 := fun w => Within_any a 0 511 w
    have hW2 := fun w => Within_any a 0 4095 w
    rw [← hin1] at hW1
    rw [← hin2] at hW2
    have HW1 := Lib.hid hW1
    have HW2 := Lib.hid hW2
    have HI1 := Lib.hid hin1
    have HI2 := Lib.hid hin2
    clear hW1 hW2 hin1 hin2
    cases in1 <;> cases in2
    all_goals
      first
      | (exfalso; have h1 := HI1.out; have h2 := HI2.out; have h2 := h2.symm; have h1 := h1.symm; rw [inB_false] at h2; rw [inB_true] at h1; omega)
      | skip
    all_goals
      (try (have hb := inB_true.1 HI1.out.symm))
      (try (have hb2 := inB_true.1 HI2.out.symm))
      go_enter Tryd.func23, Tryd.ntmps23
      go_wp2_with (first | (go_at_call 60; (with_reducible refine (HW1.out _).mono ?_); rintro e w' ⟨rfl, rfl⟩) | (go_at_call 60; (with_reducible refine (HW2.out _).mono ?_); rintro e w' ⟨rfl, rfl⟩) | (go_at_call 60; refine (Within_any _ _ _ _).mono ?_; rintro e w' ⟨rfl, rfl⟩) | ((go_at_call 61; (with_reducible refine (HF.out _).mono ?_); rintro e W1 ⟨rfl, hbW1⟩; obtain ⟨hcW1, hfW1⟩ := bcell hbW1); have hsW1 : w.heap.size < W1.heap.size := (by have h := hbW1.size; simp at h; omega)) | (go_at_call 62; refine (bytesErr_any ⟨_, _, _, _, _, _⟩ _ _ _ (by omega)).mono ?_; rintro e W2 ⟨rfl, hbW2⟩; obtain ⟨hcW2, hfW2⟩ := bcell hbW2))
      all_goals (try ((refine wp_region_quiet_below (by kernel_rfl) (by kernel_rfl) ?_; (repeat (go_big_quiet_step ((first | (go_at_call 60; exact Calls.reg_pure (HW1.out _)) | (go_at_call 62; exact Calls.regrown_of (bytesErr_any ⟨_, _, _, _, _, _⟩ _ _ _ (by omega))))))); (with_reducible refine wpQuiet_nil ?_); intro W2 hreg; have hbW2 := below_of_reg hreg; clear hreg; obtain ⟨hcW2, hfW2⟩ := bcell hbW2); go_wp2))
      all_goals
        go_ret
        refine ⟨retI ?_, by (repeat (first | assumption | exact Below.refl _ _ | refine bel_drewN ?_ _ | refine bel_alloc ?_ _ | refine bel_trans ?_ (by assumption) | refine Below.trans ?_ (by assumption)))⟩
        have hz := opForm_olds HForm.out
        have hi1 := HI1.out
        have hi2 := HI2.out
        rw [opE_if, ← HForm.out, if_neg (fun h => absurd (hk.symm.trans h) (by decide)), if_neg (by decide)]
        clear hk h3 h3' HF HForm HW1 HI1 HW2 HI2
        (try clear hbW1 hcW1 hfW1 hsW1)
        (try clear hbW2 hcW2 hfW2)
        simp [opShape, opHas, opLong, opRng, bytE, unl, inB, intBeq, -ByteArray.size_eq_zero_iff] at *
        try ((repeat' split) <;> (first | omega | simp_all | (simp_all <;> omega)))
set_option maxRecDepth 100000 in
set_option maxHeartbeats 1000000 in
theorem refOpErr_1 (a e c : Int) (o n : ByteArray) (w : World) (ho : o.size ≤ 3100) (hn : n.size ≤ 3100) :
    Calls Tryd.prog 23 #[.agg #[.int .i64 1, .int .i64 a, .int .i64 e, .int .i64 c, .string o, .string n]] w fun r w' => r = .returned (.int .i64 (opE ⟨1, a, e, c, o, n⟩)) ∧ Below w.heap.size w w' := by
  have hk : inB 1 0 6 = true := rfl
  obtain ⟨form, hform⟩ : ∃ b, b = opForm ⟨1, a, e, c, o, n⟩ := ⟨_, rfl⟩
  have hF := fun w => formErr_1 a e c o n w
  rw [← hform] at hF
  have HF := Lib.hid hF
  have HForm := Lib.hid hform
  clear hF hform
  cases form
  · have h3 : unl false 3 = 3 := rfl
    have h3' : (unl false 3 != 0) = true := rfl
    go_enter Tryd.func23, Tryd.ntmps23
    go_wp2_with (first | (go_at_call 60; refine (Within_any _ _ _ _).mono ?_; rintro e w' ⟨rfl, rfl⟩) | (go_at_call 61; refine (HF.out _).mono ?_; rintro e W1 ⟨rfl, hbW1⟩; obtain ⟨hcW1, hfW1⟩ := bcell hbW1))
    go_ret
    refine ⟨retI ?_, by (repeat (first | assumption | exact Below.refl _ _ | refine bel_drewN ?_ _ | refine bel_alloc ?_ _ | refine bel_trans ?_ (by assumption) | refine Below.trans ?_ (by assumption)))⟩
    rw [opE_if, ← HForm.out]
    simp [hk, unl]
  · have h3 : unl true 3 = 0 := rfl
    have h3' : (unl true 3 != 0) = false := rfl
    obtain ⟨in1, hin1⟩ : ∃ b, b = inB a 0 511 := ⟨_, rfl⟩
    obtain ⟨in2, hin2⟩ : ∃ b, b = inB a 0 4095 := ⟨_, rfl⟩
    have hW1 := fun w => Within_any a 0 511 w
    have hW2 := fun w => Within_any a 0 4095 w
    rw [← hin1] at hW1
    rw [← hin2] at hW2
    have HW1 := Lib.hid hW1
    have HW2 := Lib.hid hW2
    have HI1 := Lib.hid hin1
    have HI2 := Lib.hid hin2
    clear hW1 hW2 hin1 hin2
    cases in1 <;> cases in2
    all_goals
      first
      | (exfalso; have h1 := HI1.out; have h2 := HI2.out; have h2 := h2.symm; have h1 := h1.symm; rw [inB_false] at h2; rw [inB_true] at h1; omega)
      | skip
    all_goals
      (try (have hb := inB_true.1 HI1.out.symm))
      (try (have hb2 := inB_true.1 HI2.out.symm))
      go_enter Tryd.func23, Tryd.ntmps23
      go_wp2_with (first | (go_at_call 60; (with_reducible refine (HW1.out _).mono ?_); rintro e w' ⟨rfl, rfl⟩) | (go_at_call 60; (with_reducible refine (HW2.out _).mono ?_); rintro e w' ⟨rfl, rfl⟩) | (go_at_call 60; refine (Within_any _ _ _ _).mono ?_; rintro e w' ⟨rfl, rfl⟩) | ((go_at_call 61; (with_reducible refine (HF.out _).mono ?_); rintro e W1 ⟨rfl, hbW1⟩; obtain ⟨hcW1, hfW1⟩ := bcell hbW1); have hsW1 : w.heap.size < W1.heap.size := (by have h := hbW1.size; simp at h; omega)) | (go_at_call 62; refine (bytesErr_any ⟨_, _, _, _, _, _⟩ _ _ _ (by omega)).mono ?_; rintro e W2 ⟨rfl, hbW2⟩; obtain ⟨hcW2, hfW2⟩ := bcell hbW2))
      all_goals (try ((refine wp_region_quiet_below (by kernel_rfl) (by kernel_rfl) ?_; (repeat (go_big_quiet_step ((first | (go_at_call 60; exact Calls.reg_pure (HW1.out _)) | (go_at_call 62; exact Calls.regrown_of (bytesErr_any ⟨_, _, _, _, _, _⟩ _ _ _ (by omega))))))); (with_reducible refine wpQuiet_nil ?_); intro W2 hreg; have hbW2 := below_of_reg hreg; clear hreg; obtain ⟨hcW2, hfW2⟩ := bcell hbW2); go_wp2))
      all_goals
        go_ret
        refine ⟨retI ?_, by (repeat (first | assumption | exact Below.refl _ _ | refine bel_drewN ?_ _ | refine bel_alloc ?_ _ | refine bel_trans ?_ (by assumption) | refine Below.trans ?_ (by assumption)))⟩
        have hz := opForm_olds HForm.out
        have hi1 := HI1.out
        have hi2 := HI2.out
        rw [opE_if, ← HForm.out, if_neg (fun h => absurd (hk.symm.trans h) (by decide)), if_neg (by decide)]
        clear hk h3 h3' HF HForm HW1 HI1 HW2 HI2
        (try clear hbW1 hcW1 hfW1 hsW1)
        (try clear hbW2 hcW2 hfW2)
        simp [opShape, opHas, opLong, opRng, bytE, unl, inB, intBeq, -ByteArray.size_eq_zero_iff] at *
        try ((repeat' split) <;> (first | omega | simp_all | (simp_all <;> omega)))
set_option maxRecDepth 100000 in
set_option maxHeartbeats 1000000 in
theorem refOpErr_2 (a e c : Int) (o n : ByteArray) (w : World) (ho : o.size ≤ 3100) (hn : n.size ≤ 3100) :
    Calls Tryd.prog 23 #[.agg #[.int .i64 2, .int .i64 a, .int .i64 e, .int .i64 c, .string o, .string n]] w fun r w' => r = .returned (.int .i64 (opE ⟨2, a, e, c, o, n⟩)) ∧ Below w.heap.size w w' := by
  have hk : inB 2 0 6 = true := rfl
  obtain ⟨form, hform⟩ : ∃ b, b = opForm ⟨2, a, e, c, o, n⟩ := ⟨_, rfl⟩
  have hF := fun w => formErr_2 a e c o n w
  rw [← hform] at hF
  have HF := Lib.hid hF
  have HForm := Lib.hid hform
  clear hF hform
  cases form
  · have h3 : unl false 3 = 3 := rfl
    have h3' : (unl false 3 != 0) = true := rfl
    go_enter Tryd.func23, Tryd.ntmps23
    go_wp2_with (first | (go_at_call 60; refine (Within_any _ _ _ _).mono ?_; rintro e w' ⟨rfl, rfl⟩) | (go_at_call 61; refine (HF.out _).mono ?_; rintro e W1 ⟨rfl, hbW1⟩; obtain ⟨hcW1, hfW1⟩ := bcell hbW1))
    go_ret
    refine ⟨retI ?_, by (repeat (first | assumption | exact Below.refl _ _ | refine bel_drewN ?_ _ | refine bel_alloc ?_ _ | refine bel_trans ?_ (by assumption) | refine Below.trans ?_ (by assumption)))⟩
    rw [opE_if, ← HForm.out]
    simp [hk, unl]
  · have h3 : unl true 3 = 0 := rfl
    have h3' : (unl true 3 != 0) = false := rfl
    obtain ⟨in1, hin1⟩ : ∃ b, b = inB a 0 511 := ⟨_, rfl⟩
    obtain ⟨in2, hin2⟩ : ∃ b, b = inB a 0 4095 := ⟨_, rfl⟩
    have hW1 := fun w => Within_any a 0 511 w
    have hW2 := fun w => Within_any a 0 4095 w
    rw [← hin1] at hW1
    rw [← hin2] at hW2
    have HW1 := Lib.hid hW1
    have HW2 := Lib.hid hW2
    have HI1 := Lib.hid hin1
    have HI2 := Lib.hid hin2
    clear hW1 hW2 hin1 hin2
    cases in1 <;> cases in2
    all_goals
      first
      | (exfalso; have h1 := HI1.out; have h2 := HI2.out; have h2 := h2.symm; have h1 := h1.symm; rw [inB_false] at h2; rw [inB_true] at h1; omega)
      | skip
    all_goals
      (try (have hb := inB_true.1 HI1.out.symm))
      (try (have hb2 := inB_true.1 HI2.out.symm))
      go_enter Tryd.func23, Tryd.ntmps23
      go_wp2_with (first | (go_at_call 60; (with_reducible refine (HW1.out _).mono ?_); rintro e w' ⟨rfl, rfl⟩) | (go_at_call 60; (with_reducible refine (HW2.out _).mono ?_); rintro e w' ⟨rfl, rfl⟩) | (go_at_call 60; refine (Within_any _ _ _ _).mono ?_; rintro e w' ⟨rfl, rfl⟩) | ((go_at_call 61; (with_reducible refine (HF.out _).mono ?_); rintro e W1 ⟨rfl, hbW1⟩; obtain ⟨hcW1, hfW1⟩ := bcell hbW1); have hsW1 : w.heap.size < W1.heap.size := (by have h := hbW1.size; simp at h; omega)) | (go_at_call 62; refine (bytesErr_any ⟨_, _, _, _, _, _⟩ _ _ _ (by omega)).mono ?_; rintro e W2 ⟨rfl, hbW2⟩; obtain ⟨hcW2, hfW2⟩ := bcell hbW2))
      all_goals (try ((refine wp_region_quiet_below (by kernel_rfl) (by kernel_rfl) ?_; (repeat (go_big_quiet_step ((first | (go_at_call 60; exact Calls.reg_pure (HW1.out _)) | (go_at_call 62; exact Calls.regrown_of (bytesErr_any ⟨_, _, _, _, _, _⟩ _ _ _ (by omega))))))); (with_reducible refine wpQuiet_nil ?_); intro W2 hreg; have hbW2 := below_of_reg hreg; clear hreg; obtain ⟨hcW2, hfW2⟩ := bcell hbW2); go_wp2))
      all_goals
        go_ret
        refine ⟨retI ?_, by (repeat (first | assumption | exact Below.refl _ _ | refine bel_drewN ?_ _ | refine bel_alloc ?_ _ | refine bel_trans ?_ (by assumption) | refine Below.trans ?_ (by assumption)))⟩
        have hz := opForm_olds HForm.out
        have hi1 := HI1.out
        have hi2 := HI2.out
        rw [opE_if, ← HForm.out, if_neg (fun h => absurd (hk.symm.trans h) (by decide)), if_neg (by decide)]
        clear hk h3 h3' HF HForm HW1 HI1 HW2 HI2
        (try clear hbW1 hcW1 hfW1 hsW1)
        (try clear hbW2 hcW2 hfW2)
        simp [opShape, opHas, opLong, opRng, bytE, unl, inB, intBeq, -ByteArray.size_eq_zero_iff] at *
        try ((repeat' split) <;> (first | omega | simp_all | (simp_all <;> omega)))
set_option maxRecDepth 100000 in
set_option maxHeartbeats 1000000 in
theorem refOpErr_3 (a e c : Int) (o n : ByteArray) (w : World) (ho : o.size ≤ 3100) (hn : n.size ≤ 3100) :
    Calls Tryd.prog 23 #[.agg #[.int .i64 3, .int .i64 a, .int .i64 e, .int .i64 c, .string o, .string n]] w fun r w' => r = .returned (.int .i64 (opE ⟨3, a, e, c, o, n⟩)) ∧ Below w.heap.size w w' := by
  have hk : inB 3 0 6 = true := rfl
  obtain ⟨form, hform⟩ : ∃ b, b = opForm ⟨3, a, e, c, o, n⟩ := ⟨_, rfl⟩
  have hF := fun w => formErr_3 a e c o n w
  rw [← hform] at hF
  have HF := Lib.hid hF
  have HForm := Lib.hid hform
  clear hF hform
  cases form
  · have h3 : unl false 3 = 3 := rfl
    have h3' : (unl false 3 != 0) = true := rfl
    go_enter Tryd.func23, Tryd.ntmps23
    go_wp2_with (first | (go_at_call 60; refine (Within_any _ _ _ _).mono ?_; rintro e w' ⟨rfl, rfl⟩) | (go_at_call 61; refine (HF.out _).mono ?_; rintro e W1 ⟨rfl, hbW1⟩; obtain ⟨hcW1, hfW1⟩ := bcell hbW1))
    go_ret
    refine ⟨retI ?_, by (repeat (first | assumption | exact Below.refl _ _ | refine bel_drewN ?_ _ | refine bel_alloc ?_ _ | refine bel_trans ?_ (by assumption) | refine Below.trans ?_ (by assumption)))⟩
    rw [opE_if, ← HForm.out]
    simp [hk, unl]
  · have h3 : unl true 3 = 0 := rfl
    have h3' : (unl true 3 != 0) = false := rfl
    obtain ⟨in1, hin1⟩ : ∃ b, b = inB a 0 511 := ⟨_, rfl⟩
    obtain ⟨in2, hin2⟩ : ∃ b, b = inB a 0 4095 := ⟨_, rfl⟩
    have hW1 := fun w => Within_any a 0 511 w
    have hW2 := fun w => Within_any a 0 4095 w
    rw [← hin1] at hW1
    rw [← hin2] at hW2
    have HW1 := Lib.hid hW1
    have HW2 := Lib.hid hW2
    have HI1 := Lib.hid hin1
    have HI2 := Lib.hid hin2
    clear hW1 hW2 hin1 hin2
    cases in1 <;> cases in2
    all_goals
      first
      | (exfalso; have h1 := HI1.out; have h2 := HI2.out; have h2 := h2.symm; have h1 := h1.symm; rw [inB_false] at h2; rw [inB_true] at h1; omega)
      | skip
    all_goals
      (try (have hb := inB_true.1 HI1.out.symm))
      (try (have hb2 := inB_true.1 HI2.out.symm))
      go_enter Tryd.func23, Tryd.ntmps23
      go_wp2_with (first | (go_at_call 60; (with_reducible refine (HW1.out _).mono ?_); rintro e w' ⟨rfl, rfl⟩) | (go_at_call 60; (with_reducible refine (HW2.out _).mono ?_); rintro e w' ⟨rfl, rfl⟩) | (go_at_call 60; refine (Within_any _ _ _ _).mono ?_; rintro e w' ⟨rfl, rfl⟩) | ((go_at_call 61; (with_reducible refine (HF.out _).mono ?_); rintro e W1 ⟨rfl, hbW1⟩; obtain ⟨hcW1, hfW1⟩ := bcell hbW1); have hsW1 : w.heap.size < W1.heap.size := (by have h := hbW1.size; simp at h; omega)) | (go_at_call 62; refine (bytesErr_any ⟨_, _, _, _, _, _⟩ _ _ _ (by omega)).mono ?_; rintro e W2 ⟨rfl, hbW2⟩; obtain ⟨hcW2, hfW2⟩ := bcell hbW2))
      all_goals (try ((refine wp_region_quiet_below (by kernel_rfl) (by kernel_rfl) ?_; (repeat (go_big_quiet_step ((first | (go_at_call 60; exact Calls.reg_pure (HW1.out _)) | (go_at_call 62; exact Calls.regrown_of (bytesErr_any ⟨_, _, _, _, _, _⟩ _ _ _ (by omega))))))); (with_reducible refine wpQuiet_nil ?_); intro W2 hreg; have hbW2 := below_of_reg hreg; clear hreg; obtain ⟨hcW2, hfW2⟩ := bcell hbW2); go_wp2))
      all_goals
        go_ret
        refine ⟨retI ?_, by (repeat (first | assumption | exact Below.refl _ _ | refine bel_drewN ?_ _ | refine bel_alloc ?_ _ | refine bel_trans ?_ (by assumption) | refine Below.trans ?_ (by assumption)))⟩
        have hz := opForm_olds HForm.out
        have hi1 := HI1.out
        have hi2 := HI2.out
        rw [opE_if, ← HForm.out, if_neg (fun h => absurd (hk.symm.trans h) (by decide)), if_neg (by decide)]
        clear hk h3 h3' HF HForm HW1 HI1 HW2 HI2
        (try clear hbW1 hcW1 hfW1 hsW1)
        (try clear hbW2 hcW2 hfW2)
        simp [opShape, opHas, opLong, opRng, bytE, unl, inB, intBeq, -ByteArray.size_eq_zero_iff] at *
        try ((repeat' split) <;> (first | omega | simp_all | (simp_all <;> omega)))
set_option maxRecDepth 100000 in
set_option maxHeartbeats 1000000 in
theorem refOpErr_4 (a e c : Int) (o n : ByteArray) (w : World) (ho : o.size ≤ 3100) (hn : n.size ≤ 3100) :
    Calls Tryd.prog 23 #[.agg #[.int .i64 4, .int .i64 a, .int .i64 e, .int .i64 c, .string o, .string n]] w fun r w' => r = .returned (.int .i64 (opE ⟨4, a, e, c, o, n⟩)) ∧ Below w.heap.size w w' := by
  have hk : inB 4 0 6 = true := rfl
  obtain ⟨form, hform⟩ : ∃ b, b = opForm ⟨4, a, e, c, o, n⟩ := ⟨_, rfl⟩
  have hF := fun w => formErr_4 a e c o n w
  rw [← hform] at hF
  have HF := Lib.hid hF
  have HForm := Lib.hid hform
  clear hF hform
  cases form
  · have h3 : unl false 3 = 3 := rfl
    have h3' : (unl false 3 != 0) = true := rfl
    go_enter Tryd.func23, Tryd.ntmps23
    go_wp2_with (first | (go_at_call 60; refine (Within_any _ _ _ _).mono ?_; rintro e w' ⟨rfl, rfl⟩) | (go_at_call 61; refine (HF.out _).mono ?_; rintro e W1 ⟨rfl, hbW1⟩; obtain ⟨hcW1, hfW1⟩ := bcell hbW1))
    go_ret
    refine ⟨retI ?_, by (repeat (first | assumption | exact Below.refl _ _ | refine bel_drewN ?_ _ | refine bel_alloc ?_ _ | refine bel_trans ?_ (by assumption) | refine Below.trans ?_ (by assumption)))⟩
    rw [opE_if, ← HForm.out]
    simp [hk, unl]
  · have h3 : unl true 3 = 0 := rfl
    have h3' : (unl true 3 != 0) = false := rfl
    obtain ⟨in1, hin1⟩ : ∃ b, b = inB a 0 511 := ⟨_, rfl⟩
    obtain ⟨in2, hin2⟩ : ∃ b, b = inB a 0 4095 := ⟨_, rfl⟩
    have hW1 := fun w => Within_any a 0 511 w
    have hW2 := fun w => Within_any a 0 4095 w
    rw [← hin1] at hW1
    rw [← hin2] at hW2
    have HW1 := Lib.hid hW1
    have HW2 := Lib.hid hW2
    have HI1 := Lib.hid hin1
    have HI2 := Lib.hid hin2
    clear hW1 hW2 hin1 hin2
    cases in1 <;> cases in2
    all_goals
      first
      | (exfalso; have h1 := HI1.out; have h2 := HI2.out; have h2 := h2.symm; have h1 := h1.symm; rw [inB_false] at h2; rw [inB_true] at h1; omega)
      | skip
    all_goals
      (try (have hb := inB_true.1 HI1.out.symm))
      (try (have hb2 := inB_true.1 HI2.out.symm))
      go_enter Tryd.func23, Tryd.ntmps23
      go_wp2_with (first | (go_at_call 60; (with_reducible refine (HW1.out _).mono ?_); rintro e w' ⟨rfl, rfl⟩) | (go_at_call 60; (with_reducible refine (HW2.out _).mono ?_); rintro e w' ⟨rfl, rfl⟩) | (go_at_call 60; refine (Within_any _ _ _ _).mono ?_; rintro e w' ⟨rfl, rfl⟩) | ((go_at_call 61; (with_reducible refine (HF.out _).mono ?_); rintro e W1 ⟨rfl, hbW1⟩; obtain ⟨hcW1, hfW1⟩ := bcell hbW1); have hsW1 : w.heap.size < W1.heap.size := (by have h := hbW1.size; simp at h; omega)) | (go_at_call 62; refine (bytesErr_any ⟨_, _, _, _, _, _⟩ _ _ _ (by omega)).mono ?_; rintro e W2 ⟨rfl, hbW2⟩; obtain ⟨hcW2, hfW2⟩ := bcell hbW2))
      all_goals (try ((refine wp_region_quiet_below (by kernel_rfl) (by kernel_rfl) ?_; (repeat (go_big_quiet_step ((first | (go_at_call 60; exact Calls.reg_pure (HW1.out _)) | (go_at_call 62; exact Calls.regrown_of (bytesErr_any ⟨_, _, _, _, _, _⟩ _ _ _ (by omega))))))); (with_reducible refine wpQuiet_nil ?_); intro W2 hreg; have hbW2 := below_of_reg hreg; clear hreg; obtain ⟨hcW2, hfW2⟩ := bcell hbW2); go_wp2))
      all_goals
        go_ret
        refine ⟨retI ?_, by (repeat (first | assumption | exact Below.refl _ _ | refine bel_drewN ?_ _ | refine bel_alloc ?_ _ | refine bel_trans ?_ (by assumption) | refine Below.trans ?_ (by assumption)))⟩
        have hz := opForm_olds HForm.out
        have hi1 := HI1.out
        have hi2 := HI2.out
        rw [opE_if, ← HForm.out, if_neg (fun h => absurd (hk.symm.trans h) (by decide)), if_neg (by decide)]
        clear hk h3 h3' HF HForm HW1 HI1 HW2 HI2
        (try clear hbW1 hcW1 hfW1 hsW1)
        (try clear hbW2 hcW2 hfW2)
        simp [opShape, opHas, opLong, opRng, bytE, unl, inB, intBeq, -ByteArray.size_eq_zero_iff] at *
        try ((repeat' split) <;> (first | omega | simp_all | (simp_all <;> omega)))
set_option maxRecDepth 100000 in
set_option maxHeartbeats 1000000 in
theorem refOpErr_5 (a e c : Int) (o n : ByteArray) (w : World) (ho : o.size ≤ 3100) (hn : n.size ≤ 3100) :
    Calls Tryd.prog 23 #[.agg #[.int .i64 5, .int .i64 a, .int .i64 e, .int .i64 c, .string o, .string n]] w fun r w' => r = .returned (.int .i64 (opE ⟨5, a, e, c, o, n⟩)) ∧ Below w.heap.size w w' := by
  have hk : inB 5 0 6 = true := rfl
  obtain ⟨form, hform⟩ : ∃ b, b = opForm ⟨5, a, e, c, o, n⟩ := ⟨_, rfl⟩
  have hF := fun w => formErr_5 a e c o n w
  rw [← hform] at hF
  have HF := Lib.hid hF
  have HForm := Lib.hid hform
  clear hF hform
  cases form
  · have h3 : unl false 3 = 3 := rfl
    have h3' : (unl false 3 != 0) = true := rfl
    go_enter Tryd.func23, Tryd.ntmps23
    go_wp2_with (first | (go_at_call 60; refine (Within_any _ _ _ _).mono ?_; rintro e w' ⟨rfl, rfl⟩) | (go_at_call 61; refine (HF.out _).mono ?_; rintro e W1 ⟨rfl, hbW1⟩; obtain ⟨hcW1, hfW1⟩ := bcell hbW1))
    go_ret
    refine ⟨retI ?_, by (repeat (first | assumption | exact Below.refl _ _ | refine bel_drewN ?_ _ | refine bel_alloc ?_ _ | refine bel_trans ?_ (by assumption) | refine Below.trans ?_ (by assumption)))⟩
    rw [opE_if, ← HForm.out]
    simp [hk, unl]
  · have h3 : unl true 3 = 0 := rfl
    have h3' : (unl true 3 != 0) = false := rfl
    obtain ⟨in1, hin1⟩ : ∃ b, b = inB a 0 511 := ⟨_, rfl⟩
    obtain ⟨in2, hin2⟩ : ∃ b, b = inB a 0 4095 := ⟨_, rfl⟩
    have hW1 := fun w => Within_any a 0 511 w
    have hW2 := fun w => Within_any a 0 4095 w
    rw [← hin1] at hW1
    rw [← hin2] at hW2
    have HW1 := Lib.hid hW1
    have HW2 := Lib.hid hW2
    have HI1 := Lib.hid hin1
    have HI2 := Lib.hid hin2
    clear hW1 hW2 hin1 hin2
    cases in1 <;> cases in2
    all_goals
      first
      | (exfalso; have h1 := HI1.out; have h2 := HI2.out; have h2 := h2.symm; have h1 := h1.symm; rw [inB_false] at h2; rw [inB_true] at h1; omega)
      | skip
    all_goals
      (try (have hb := inB_true.1 HI1.out.symm))
      (try (have hb2 := inB_true.1 HI2.out.symm))
      go_enter Tryd.func23, Tryd.ntmps23
      go_wp2_with (first | (go_at_call 60; (with_reducible refine (HW1.out _).mono ?_); rintro e w' ⟨rfl, rfl⟩) | (go_at_call 60; (with_reducible refine (HW2.out _).mono ?_); rintro e w' ⟨rfl, rfl⟩) | (go_at_call 60; refine (Within_any _ _ _ _).mono ?_; rintro e w' ⟨rfl, rfl⟩) | ((go_at_call 61; (with_reducible refine (HF.out _).mono ?_); rintro e W1 ⟨rfl, hbW1⟩; obtain ⟨hcW1, hfW1⟩ := bcell hbW1); have hsW1 : w.heap.size < W1.heap.size := (by have h := hbW1.size; simp at h; omega)) | (go_at_call 62; refine (bytesErr_any ⟨_, _, _, _, _, _⟩ _ _ _ (by omega)).mono ?_; rintro e W2 ⟨rfl, hbW2⟩; obtain ⟨hcW2, hfW2⟩ := bcell hbW2))
      all_goals (try ((refine wp_region_quiet_below (by kernel_rfl) (by kernel_rfl) ?_; (repeat (go_big_quiet_step ((first | (go_at_call 60; exact Calls.reg_pure (HW1.out _)) | (go_at_call 62; exact Calls.regrown_of (bytesErr_any ⟨_, _, _, _, _, _⟩ _ _ _ (by omega))))))); (with_reducible refine wpQuiet_nil ?_); intro W2 hreg; have hbW2 := below_of_reg hreg; clear hreg; obtain ⟨hcW2, hfW2⟩ := bcell hbW2); go_wp2))
      all_goals
        go_ret
        refine ⟨retI ?_, by (repeat (first | assumption | exact Below.refl _ _ | refine bel_drewN ?_ _ | refine bel_alloc ?_ _ | refine bel_trans ?_ (by assumption) | refine Below.trans ?_ (by assumption)))⟩
        have hz := opForm_olds HForm.out
        have hi1 := HI1.out
        have hi2 := HI2.out
        rw [opE_if, ← HForm.out, if_neg (fun h => absurd (hk.symm.trans h) (by decide)), if_neg (by decide)]
        clear hk h3 h3' HF HForm HW1 HI1 HW2 HI2
        (try clear hbW1 hcW1 hfW1 hsW1)
        (try clear hbW2 hcW2 hfW2)
        simp [opShape, opHas, opLong, opRng, bytE, unl, inB, intBeq, -ByteArray.size_eq_zero_iff] at *
        try ((repeat' split) <;> (first | omega | simp_all | (simp_all <;> omega)))
set_option maxRecDepth 100000 in
set_option maxHeartbeats 1000000 in
theorem refOpErr_6 (a e c : Int) (o n : ByteArray) (w : World) (ho : o.size ≤ 3100) (hn : n.size ≤ 3100) :
    Calls Tryd.prog 23 #[.agg #[.int .i64 6, .int .i64 a, .int .i64 e, .int .i64 c, .string o, .string n]] w fun r w' => r = .returned (.int .i64 (opE ⟨6, a, e, c, o, n⟩)) ∧ Below w.heap.size w w' := by
  have hk : inB 6 0 6 = true := rfl
  obtain ⟨form, hform⟩ : ∃ b, b = opForm ⟨6, a, e, c, o, n⟩ := ⟨_, rfl⟩
  have hF := fun w => formErr_6 a e c o n w
  rw [← hform] at hF
  have HF := Lib.hid hF
  have HForm := Lib.hid hform
  clear hF hform
  cases form
  · have h3 : unl false 3 = 3 := rfl
    have h3' : (unl false 3 != 0) = true := rfl
    go_enter Tryd.func23, Tryd.ntmps23
    go_wp2_with (first | (go_at_call 60; refine (Within_any _ _ _ _).mono ?_; rintro e w' ⟨rfl, rfl⟩) | (go_at_call 61; refine (HF.out _).mono ?_; rintro e W1 ⟨rfl, hbW1⟩; obtain ⟨hcW1, hfW1⟩ := bcell hbW1))
    go_ret
    refine ⟨retI ?_, by (repeat (first | assumption | exact Below.refl _ _ | refine bel_drewN ?_ _ | refine bel_alloc ?_ _ | refine bel_trans ?_ (by assumption) | refine Below.trans ?_ (by assumption)))⟩
    rw [opE_if, ← HForm.out]
    simp [hk, unl]
  · have h3 : unl true 3 = 0 := rfl
    have h3' : (unl true 3 != 0) = false := rfl
    obtain ⟨in1, hin1⟩ : ∃ b, b = inB a 0 511 := ⟨_, rfl⟩
    obtain ⟨in2, hin2⟩ : ∃ b, b = inB a 0 4095 := ⟨_, rfl⟩
    have hW1 := fun w => Within_any a 0 511 w
    have hW2 := fun w => Within_any a 0 4095 w
    rw [← hin1] at hW1
    rw [← hin2] at hW2
    have HW1 := Lib.hid hW1
    have HW2 := Lib.hid hW2
    have HI1 := Lib.hid hin1
    have HI2 := Lib.hid hin2
    clear hW1 hW2 hin1 hin2
    cases in1 <;> cases in2
    all_goals
      first
      | (exfalso; have h1 := HI1.out; have h2 := HI2.out; have h2 := h2.symm; have h1 := h1.symm; rw [inB_false] at h2; rw [inB_true] at h1; omega)
      | skip
    all_goals
      (try (have hb := inB_true.1 HI1.out.symm))
      (try (have hb2 := inB_true.1 HI2.out.symm))
      go_enter Tryd.func23, Tryd.ntmps23
      go_wp2_with (first | (go_at_call 60; (with_reducible refine (HW1.out _).mono ?_); rintro e w' ⟨rfl, rfl⟩) | (go_at_call 60; (with_reducible refine (HW2.out _).mono ?_); rintro e w' ⟨rfl, rfl⟩) | (go_at_call 60; refine (Within_any _ _ _ _).mono ?_; rintro e w' ⟨rfl, rfl⟩) | ((go_at_call 61; (with_reducible refine (HF.out _).mono ?_); rintro e W1 ⟨rfl, hbW1⟩; obtain ⟨hcW1, hfW1⟩ := bcell hbW1); have hsW1 : w.heap.size < W1.heap.size := (by have h := hbW1.size; simp at h; omega)) | (go_at_call 62; refine (bytesErr_any ⟨_, _, _, _, _, _⟩ _ _ _ (by omega)).mono ?_; rintro e W2 ⟨rfl, hbW2⟩; obtain ⟨hcW2, hfW2⟩ := bcell hbW2))
      all_goals (try ((refine wp_region_quiet_below (by kernel_rfl) (by kernel_rfl) ?_; (repeat (go_big_quiet_step ((first | (go_at_call 60; exact Calls.reg_pure (HW1.out _)) | (go_at_call 62; exact Calls.regrown_of (bytesErr_any ⟨_, _, _, _, _, _⟩ _ _ _ (by omega))))))); (with_reducible refine wpQuiet_nil ?_); intro W2 hreg; have hbW2 := below_of_reg hreg; clear hreg; obtain ⟨hcW2, hfW2⟩ := bcell hbW2); go_wp2))
      all_goals
        go_ret
        refine ⟨retI ?_, by (repeat (first | assumption | exact Below.refl _ _ | refine bel_drewN ?_ _ | refine bel_alloc ?_ _ | refine bel_trans ?_ (by assumption) | refine Below.trans ?_ (by assumption)))⟩
        have hz := opForm_olds HForm.out
        have hi1 := HI1.out
        have hi2 := HI2.out
        rw [opE_if, ← HForm.out, if_neg (fun h => absurd (hk.symm.trans h) (by decide)), if_neg (by decide)]
        clear hk h3 h3' HF HForm HW1 HI1 HW2 HI2
        (try clear hbW1 hcW1 hfW1 hsW1)
        (try clear hbW2 hcW2 hfW2)
        simp [opShape, opHas, opLong, opRng, bytE, unl, inB, intBeq, -ByteArray.size_eq_zero_iff] at *
        try ((repeat' split) <;> (first | omega | simp_all | (simp_all <;> omega)))
end Go.Proofs.YtgmipogidmcilaaDoor
