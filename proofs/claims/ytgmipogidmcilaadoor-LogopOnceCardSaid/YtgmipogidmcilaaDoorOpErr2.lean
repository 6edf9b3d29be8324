/-
  Chapter 21: CheckOp, kind by kind.
-/
import Derived.Test.YtgmipogidmcilaaDoorKinds
import Derived.Test.YtgmipogidmcilaaDoorBox
import Derived.Test.YtgmipogidmcilaaDoorOp3
namespace Go.Proofs.YtgmipogidmcilaaDoor
set_option linter.unusedVariables false
set_option linter.unusedSimpArgs false
open Go.RowKit Go.Sort

theorem opE_of {x : Op} {A B C D : Bool} (hk : inB x.k 0 6 = true) (hA : A = opForm x) (hB : B = opShape x) (hC : C = (!opHas x.k || decide (0 < opLong x))) (hD : D = (!opHas x.k || decide (opLong x ≤ 200))) :
    firstE [unl A 3, unl B 10, unl C 17, unl D 8, unl (opRng x) 2] = opE x := by
  unfold opE; rw [hk, if_neg (by decide), hA, hB, hC, hD]

set_option maxRecDepth 100000 in
set_option maxHeartbeats 1000000 in
theorem CheckOp_0 (a e c : Int) (o n : ByteArray) (w : World) (ho : o.size ≤ 3100) (hn : n.size ≤ 3100) :
    Calls Tryd.prog 21 #[.agg #[.int .i64 0, .int .i64 a, .int .i64 e, .int .i64 c, .string o, .string n]] w fun r w' => r = .returned (.int .i64 (opE ⟨0, a, e, c, o, n⟩)) ∧ Below w.heap.size w w' := by
  have hk : inB 0 0 6 = true := rfl
  have hidx : ∀ W, (Instr.index 101 (.agg kindsCells) (.int .i64 0)).run Tryd.prog W = .ok (.agg #[.bool false, .bool false, .bool false, .bool false, .bool false]) W := fun W => by kernel_rfl
  obtain ⟨Ba, hBa⟩ : ∃ b, (a == 0) = b := ⟨_, rfl⟩
  obtain ⟨Be, hBe⟩ : ∃ b, (e == 0) = b := ⟨_, rfl⟩
  obtain ⟨Bc, hBc⟩ : ∃ b, (c == 0) = b := ⟨_, rfl⟩
  obtain ⟨Bo, hBo⟩ : ∃ b, o.toList.isEmpty = b := ⟨_, rfl⟩
  obtain ⟨Bn, hBn⟩ : ∃ b, n.toList.isEmpty = b := ⟨_, rfl⟩
  go_enter Tryd.func21, Tryd.ntmps21
  go_wp2_with (first | (go_at_call 57; refine (logop_within_any _ _ _ _).mono ?_; rintro e w' ⟨rfl, rfl⟩))
  refine wp_region_atail 4 _ (.cells #[.bool false, .bool false, .bool false, .bool false, .bool false] 100) (by kernel_rfl) (by kernel_rfl) rfl (by kernel_rfl) (fun ev X => by kernel_rfl) ?_
  apply Exists.intro
  refine ⟨fun X hX => ?_, ?_⟩
  · obtain ⟨hcX, hfX⟩ := bcell hX
    have hsX : w.heap.size < X.heap.size := by have := hX.size; simp at this; omega
    simp only [List.take_succ_cons, List.take_zero]
    (repeat (go_big_quiet_step ((first | (go_at_call 58; exact Calls.regrown_of (kinds_any _))))))
    exact wpQuiet_nil rfl
  · intro b1 W1 hbW1 hle hblk
    simp only [List.drop_succ_cons, List.drop_zero, Act.put, List.setIfInBounds_toArray, List.set_cons_succ, List.set_cons_zero]
    refine wpList_store_new rfl 100 _ _ rfl rfl b1 _ rfl rfl _ hbW1 hle 100 _ hblk (by kernel_rfl) rfl (by kernel_rfl) ?_
    intro W2 hb2 hbox2 _
    obtain ⟨hcW2, hfW2⟩ := bcell hb2
    have hx2 := hbox2.cells
    have hs2 : w.heap.size < W2.heap.size := by have := hb2.size; simp at this; omega
    clear hbW1 hle hblk hidx
    apply wpList_nil
    go_upto_region 4 with (fail)
    go_cut [4] (fun s4 wx => s4 = .bool (opForm ⟨0, a, e, c, o, n⟩) ∧ W2 = wx)
    case first =>
      go_wp2_with fail
      all_goals
        go_meet
        refine ⟨congrArg Value.bool ?_, rfl⟩
        rw [isEmpty_eq] at hBo hBn
        simp only [opForm, opAt, opEnd, opCount, opOld, opNew, hBa, hBe, hBc, hBo, hBn]
        (try simp_all [inB])
    case rest =>
    obtain ⟨rfl, rfl⟩ := hcut
    obtain ⟨form, hform⟩ : ∃ b, b = opForm ⟨0, a, e, c, o, n⟩ := ⟨_, rfl⟩
    rw [← hform]
    have HForm := Lib.hid hform
    clear hform
    go_upto_region 14 with (fail)
    all_goals
      go_cut [7] (fun s7 wx => s7 = .int .i64 (opLong ⟨0, a, e, c, o, n⟩ : Nat) ∧ W2 = wx)
      case first =>
        go_wp2_with fail
        all_goals
          go_meet
          refine ⟨congrArg (Value.int .i64) ?_, rfl⟩
          simp only [opLong]
          omega
      case rest =>
      obtain ⟨rfl, rfl⟩ := hcut
      obtain ⟨L, hL⟩ : ∃ b, b = opLong ⟨0, a, e, c, o, n⟩ := ⟨_, rfl⟩
      rw [← hL]
      have HL := Lib.hid hL
      clear hL
      go_wp2_with fail
      (refine wp_region_btail 20 (by kernel_rfl) (by kernel_rfl) ?_; simp only [List.take_succ_cons, List.take_zero, List.drop_succ_cons, List.drop_zero]; (repeat (go_big_quiet_step ((first | (go_at_call 54; exact Calls.reg_pure (logop_unless_any _ _ _)) | (go_at_call 59; exact Calls.regrown_of (rangeErr_0 _ _ _ _ _ _ ho hn)))))); (with_reducible refine wpQuiet_nil ?_); intro W3 hreg; have hbW3 := below_of_reg hreg; clear hreg; obtain ⟨hcW3, hfW3⟩ := bcell hbW3)
      go_wp2_with (first | (go_at_call 52; refine (logop_first_list [_, _, _, _, _] W3 (by simp)).mono ?_; rintro e w' ⟨rfl, rfl⟩))
      go_ret
      refine ⟨retI (opE_of rfl HForm.out ?_ ?_ ?_), by (repeat (first | assumption | exact Below.refl _ _ | refine bel_drewN ?_ _ | refine bel_alloc ?_ _ | refine bel_trans ?_ (by assumption) | refine Below.trans ?_ (by assumption)))⟩
      all_goals
        (try rw [← HL.out])
        (try simp only [isEmpty_eq, intBeq])
        rw [Bool.eq_iff_iff]
        (try simp [opShape, opHas, inB, -ByteArray.size_eq_zero_iff])
        (try omega)
set_option maxRecDepth 100000 in
set_option maxHeartbeats 1000000 in
theorem CheckOp_1 (a e c : Int) (o n : ByteArray) (w : World) (ho : o.size ≤ 3100) (hn : n.size ≤ 3100) :
    Calls Tryd.prog 21 #[.agg #[.int .i64 1, .int .i64 a, .int .i64 e, .int .i64 c, .string o, .string n]] w fun r w' => r = .returned (.int .i64 (opE ⟨1, a, e, c, o, n⟩)) ∧ Below w.heap.size w w' := by
  have hk : inB 1 0 6 = true := rfl
  have hidx : ∀ W, (Instr.index 101 (.agg kindsCells) (.int .i64 1)).run Tryd.prog W = .ok (.agg #[.bool true, .bool false, .bool false, .bool true, .bool true]) W := fun W => by kernel_rfl
  obtain ⟨Ba, hBa⟩ : ∃ b, (a == 0) = b := ⟨_, rfl⟩
  obtain ⟨Be, hBe⟩ : ∃ b, (e == 0) = b := ⟨_, rfl⟩
  obtain ⟨Bc, hBc⟩ : ∃ b, (c == 0) = b := ⟨_, rfl⟩
  obtain ⟨Bo, hBo⟩ : ∃ b, o.toList.isEmpty = b := ⟨_, rfl⟩
  obtain ⟨Bn, hBn⟩ : ∃ b, n.toList.isEmpty = b := ⟨_, rfl⟩
  go_enter Tryd.func21, Tryd.ntmps21
  go_wp2_with (first | (go_at_call 57; refine (logop_within_any _ _ _ _).mono ?_; rintro e w' ⟨rfl, rfl⟩))
  refine wp_region_atail 4 _ (.cells #[.bool false, .bool false, .bool false, .bool false, .bool false] 100) (by kernel_rfl) (by kernel_rfl) rfl (by kernel_rfl) (fun ev X => by kernel_rfl) ?_
  apply Exists.intro
  refine ⟨fun X hX => ?_, ?_⟩
  · obtain ⟨hcX, hfX⟩ := bcell hX
    have hsX : w.heap.size < X.heap.size := by have := hX.size; simp at this; omega
    simp only [List.take_succ_cons, List.take_zero]
    (repeat (go_big_quiet_step ((first | (go_at_call 58; exact Calls.regrown_of (kinds_any _))))))
    exact wpQuiet_nil rfl
  · intro b1 W1 hbW1 hle hblk
    simp only [List.drop_succ_cons, List.drop_zero, Act.put, List.setIfInBounds_toArray, List.set_cons_succ, List.set_cons_zero]
    refine wpList_store_new rfl 100 _ _ rfl rfl b1 _ rfl rfl _ hbW1 hle 100 _ hblk (by kernel_rfl) rfl (by kernel_rfl) ?_
    intro W2 hb2 hbox2 _
    obtain ⟨hcW2, hfW2⟩ := bcell hb2
    have hx2 := hbox2.cells
    have hs2 : w.heap.size < W2.heap.size := by have := hb2.size; simp at this; omega
    clear hbW1 hle hblk hidx
    apply wpList_nil
    go_upto_region 4 with (fail)
    go_cut [4] (fun s4 wx => s4 = .bool (opForm ⟨1, a, e, c, o, n⟩) ∧ W2 = wx)
    case first =>
      go_wp2_with fail
      all_goals
        go_meet
        refine ⟨congrArg Value.bool ?_, rfl⟩
        rw [isEmpty_eq] at hBo hBn
        simp only [opForm, opAt, opEnd, opCount, opOld, opNew, hBa, hBe, hBc, hBo, hBn]
        (try simp_all [inB])
    case rest =>
    obtain ⟨rfl, rfl⟩ := hcut
    obtain ⟨form, hform⟩ : ∃ b, b = opForm ⟨1, a, e, c, o, n⟩ := ⟨_, rfl⟩
    rw [← hform]
    have HForm := Lib.hid hform
    clear hform
    go_upto_region 14 with (fail)
    all_goals
      go_cut [7] (fun s7 wx => s7 = .int .i64 (opLong ⟨1, a, e, c, o, n⟩ : Nat) ∧ W2 = wx)
      case first =>
        go_wp2_with fail
        all_goals
          go_meet
          refine ⟨congrArg (Value.int .i64) ?_, rfl⟩
          simp only [opLong]
          omega
      case rest =>
      obtain ⟨rfl, rfl⟩ := hcut
      obtain ⟨L, hL⟩ : ∃ b, b = opLong ⟨1, a, e, c, o, n⟩ := ⟨_, rfl⟩
      rw [← hL]
      have HL := Lib.hid hL
      clear hL
      go_wp2_with fail
      (refine wp_region_btail 20 (by kernel_rfl) (by kernel_rfl) ?_; simp only [List.take_succ_cons, List.take_zero, List.drop_succ_cons, List.drop_zero]; (repeat (go_big_quiet_step ((first | (go_at_call 54; exact Calls.reg_pure (logop_unless_any _ _ _)) | (go_at_call 59; exact Calls.regrown_of (rangeErr_1 _ _ _ _ _ _ ho hn)))))); (with_reducible refine wpQuiet_nil ?_); intro W3 hreg; have hbW3 := below_of_reg hreg; clear hreg; obtain ⟨hcW3, hfW3⟩ := bcell hbW3)
      go_wp2_with (first | (go_at_call 52; refine (logop_first_list [_, _, _, _, _] W3 (by simp)).mono ?_; rintro e w' ⟨rfl, rfl⟩))
      go_ret
      refine ⟨retI (opE_of rfl HForm.out ?_ ?_ ?_), by (repeat (first | assumption | exact Below.refl _ _ | refine bel_drewN ?_ _ | refine bel_alloc ?_ _ | refine bel_trans ?_ (by assumption) | refine Below.trans ?_ (by assumption)))⟩
      all_goals
        (try rw [← HL.out])
        (try simp only [isEmpty_eq, intBeq])
        rw [Bool.eq_iff_iff]
        (try simp [opShape, opHas, inB, -ByteArray.size_eq_zero_iff])
        (try omega)
set_option maxRecDepth 100000 in
set_option maxHeartbeats 1000000 in
theorem CheckOp_2 (a e c : Int) (o n : ByteArray) (w : World) (ho : o.size ≤ 3100) (hn : n.size ≤ 3100) :
    Calls Tryd.prog 21 #[.agg #[.int .i64 2, .int .i64 a, .int .i64 e, .int .i64 c, .string o, .string n]] w fun r w' => r = .returned (.int .i64 (opE ⟨2, a, e, c, o, n⟩)) ∧ Below w.heap.size w w' := by
  have hk : inB 2 0 6 = true := rfl
  have hidx : ∀ W, (Instr.index 101 (.agg kindsCells) (.int .i64 2)).run Tryd.prog W = .ok (.agg #[.bool true, .bool true, .bool false, .bool false, .bool true]) W := fun W => by kernel_rfl
  obtain ⟨Ba, hBa⟩ : ∃ b, (a == 0) = b := ⟨_, rfl⟩
  obtain ⟨Be, hBe⟩ : ∃ b, (e == 0) = b := ⟨_, rfl⟩
  obtain ⟨Bc, hBc⟩ : ∃ b, (c == 0) = b := ⟨_, rfl⟩
  obtain ⟨Bo, hBo⟩ : ∃ b, o.toList.isEmpty = b := ⟨_, rfl⟩
  obtain ⟨Bn, hBn⟩ : ∃ b, n.toList.isEmpty = b := ⟨_, rfl⟩
  go_enter Tryd.func21, Tryd.ntmps21
  go_wp2_with (first | (go_at_call 57; refine (logop_within_any _ _ _ _).mono ?_; rintro e w' ⟨rfl, rfl⟩))
  refine wp_region_atail 4 _ (.cells #[.bool false, .bool false, .bool false, .bool false, .bool false] 100) (by kernel_rfl) (by kernel_rfl) rfl (by kernel_rfl) (fun ev X => by kernel_rfl) ?_
  apply Exists.intro
  refine ⟨fun X hX => ?_, ?_⟩
  · obtain ⟨hcX, hfX⟩ := bcell hX
    have hsX : w.heap.size < X.heap.size := by have := hX.size; simp at this; omega
    simp only [List.take_succ_cons, List.take_zero]
    (repeat (go_big_quiet_step ((first | (go_at_call 58; exact Calls.regrown_of (kinds_any _))))))
    exact wpQuiet_nil rfl
  · intro b1 W1 hbW1 hle hblk
    simp only [List.drop_succ_cons, List.drop_zero, Act.put, List.setIfInBounds_toArray, List.set_cons_succ, List.set_cons_zero]
    refine wpList_store_new rfl 100 _ _ rfl rfl b1 _ rfl rfl _ hbW1 hle 100 _ hblk (by kernel_rfl) rfl (by kernel_rfl) ?_
    intro W2 hb2 hbox2 _
    obtain ⟨hcW2, hfW2⟩ := bcell hb2
    have hx2 := hbox2.cells
    have hs2 : w.heap.size < W2.heap.size := by have := hb2.size; simp at this; omega
    clear hbW1 hle hblk hidx
    apply wpList_nil
    go_upto_region 4 with (fail)
    go_cut [4] (fun s4 wx => s4 = .bool (opForm ⟨2, a, e, c, o, n⟩) ∧ W2 = wx)
    case first =>
      go_wp2_with fail
      all_goals
        go_meet
        refine ⟨congrArg Value.bool ?_, rfl⟩
        rw [isEmpty_eq] at hBo hBn
        simp only [opForm, opAt, opEnd, opCount, opOld, opNew, hBa, hBe, hBc, hBo, hBn]
        (try simp_all [inB])
    case rest =>
    obtain ⟨rfl, rfl⟩ := hcut
    obtain ⟨form, hform⟩ : ∃ b, b = opForm ⟨2, a, e, c, o, n⟩ := ⟨_, rfl⟩
    rw [← hform]
    have HForm := Lib.hid hform
    clear hform
    go_upto_region 14 with (fail)
    all_goals
      go_cut [7] (fun s7 wx => s7 = .int .i64 (opLong ⟨2, a, e, c, o, n⟩ : Nat) ∧ W2 = wx)
      case first =>
        go_wp2_with fail
        all_goals
          go_meet
          refine ⟨congrArg (Value.int .i64) ?_, rfl⟩
          simp only [opLong]
          omega
      case rest =>
      obtain ⟨rfl, rfl⟩ := hcut
      obtain ⟨L, hL⟩ : ∃ b, b = opLong ⟨2, a, e, c, o, n⟩ := ⟨_, rfl⟩
      rw [← hL]
      have HL := Lib.hid hL
      clear hL
      go_wp2_with fail
      (refine wp_region_btail 20 (by kernel_rfl) (by kernel_rfl) ?_; simp only [List.take_succ_cons, List.take_zero, List.drop_succ_cons, List.drop_zero]; (repeat (go_big_quiet_step ((first | (go_at_call 54; exact Calls.reg_pure (logop_unless_any _ _ _)) | (go_at_call 59; exact Calls.regrown_of (rangeErr_2 _ _ _ _ _ _ ho hn)))))); (with_reducible refine wpQuiet_nil ?_); intro W3 hreg; have hbW3 := below_of_reg hreg; clear hreg; obtain ⟨hcW3, hfW3⟩ := bcell hbW3)
      go_wp2_with (first | (go_at_call 52; refine (logop_first_list [_, _, _, _, _] W3 (by simp)).mono ?_; rintro e w' ⟨rfl, rfl⟩))
      go_ret
      refine ⟨retI (opE_of rfl HForm.out ?_ ?_ ?_), by (repeat (first | assumption | exact Below.refl _ _ | refine bel_drewN ?_ _ | refine bel_alloc ?_ _ | refine bel_trans ?_ (by assumption) | refine Below.trans ?_ (by assumption)))⟩
      all_goals
        (try rw [← HL.out])
        (try simp only [isEmpty_eq, intBeq])
        rw [Bool.eq_iff_iff]
        (try simp [opShape, opHas, inB, -ByteArray.size_eq_zero_iff])
        (try omega)
set_option maxRecDepth 100000 in
set_option maxHeartbeats 1000000 in
theorem CheckOp_3 (a e c : Int) (o n : ByteArray) (w : World) (ho : o.size ≤ 3100) (hn : n.size ≤ 3100) :
    Calls Tryd.prog 21 #[.agg #[.int .i64 3, .int .i64 a, .int .i64 e, .int .i64 c, .string o, .string n]] w fun r w' => r = .returned (.int .i64 (opE ⟨3, a, e, c, o, n⟩)) ∧ Below w.heap.size w w' := by
  have hk : inB 3 0 6 = true := rfl
  have hidx : ∀ W, (Instr.index 101 (.agg kindsCells) (.int .i64 3)).run Tryd.prog W = .ok (.agg #[.bool true, .bool true, .bool false, .bool true, .bool false]) W := fun W => by kernel_rfl
  obtain ⟨Ba, hBa⟩ : ∃ b, (a == 0) = b := ⟨_, rfl⟩
  obtain ⟨Be, hBe⟩ : ∃ b, (e == 0) = b := ⟨_, rfl⟩
  obtain ⟨Bc, hBc⟩ : ∃ b, (c == 0) = b := ⟨_, rfl⟩
  obtain ⟨Bo, hBo⟩ : ∃ b, o.toList.isEmpty = b := ⟨_, rfl⟩
  obtain ⟨Bn, hBn⟩ : ∃ b, n.toList.isEmpty = b := ⟨_, rfl⟩
  go_enter Tryd.func21, Tryd.ntmps21
  go_wp2_with (first | (go_at_call 57; refine (logop_within_any _ _ _ _).mono ?_; rintro e w' ⟨rfl, rfl⟩))
  refine wp_region_atail 4 _ (.cells #[.bool false, .bool false, .bool false, .bool false, .bool false] 100) (by kernel_rfl) (by kernel_rfl) rfl (by kernel_rfl) (fun ev X => by kernel_rfl) ?_
  apply Exists.intro
  refine ⟨fun X hX => ?_, ?_⟩
  · obtain ⟨hcX, hfX⟩ := bcell hX
    have hsX : w.heap.size < X.heap.size := by have := hX.size; simp at this; omega
    simp only [List.take_succ_cons, List.take_zero]
    (repeat (go_big_quiet_step ((first | (go_at_call 58; exact Calls.regrown_of (kinds_any _))))))
    exact wpQuiet_nil rfl
  · intro b1 W1 hbW1 hle hblk
    simp only [List.drop_succ_cons, List.drop_zero, Act.put, List.setIfInBounds_toArray, List.set_cons_succ, List.set_cons_zero]
    refine wpList_store_new rfl 100 _ _ rfl rfl b1 _ rfl rfl _ hbW1 hle 100 _ hblk (by kernel_rfl) rfl (by kernel_rfl) ?_
    intro W2 hb2 hbox2 _
    obtain ⟨hcW2, hfW2⟩ := bcell hb2
    have hx2 := hbox2.cells
    have hs2 : w.heap.size < W2.heap.size := by have := hb2.size; simp at this; omega
    clear hbW1 hle hblk hidx
    apply wpList_nil
    go_upto_region 4 with (fail)
    go_cut [4] (fun s4 wx => s4 = .bool (opForm ⟨3, a, e, c, o, n⟩) ∧ W2 = wx)
    case first =>
      go_wp2_with fail
      all_goals
        go_meet
        refine ⟨congrArg Value.bool ?_, rfl⟩
        rw [isEmpty_eq] at hBo hBn
        simp only [opForm, opAt, opEnd, opCount, opOld, opNew, hBa, hBe, hBc, hBo, hBn]
        (try simp_all [inB])
    case rest =>
    obtain ⟨rfl, rfl⟩ := hcut
    obtain ⟨form, hform⟩ : ∃ b, b = opForm ⟨3, a, e, c, o, n⟩ := ⟨_, rfl⟩
    rw [← hform]
    have HForm := Lib.hid hform
    clear hform
    go_upto_region 14 with (fail)
    all_goals
      go_cut [7] (fun s7 wx => s7 = .int .i64 (opLong ⟨3, a, e, c, o, n⟩ : Nat) ∧ W2 = wx)
      case first =>
        go_wp2_with fail
        all_goals
          go_meet
          refine ⟨congrArg (Value.int .i64) ?_, rfl⟩
          simp only [opLong]
          omega
      case rest =>
      obtain ⟨rfl, rfl⟩ := hcut
      obtain ⟨L, hL⟩ : ∃ b, b = opLong ⟨3, a, e, c, o, n⟩ := ⟨_, rfl⟩
      rw [← hL]
      have HL := Lib.hid hL
      clear hL
      go_wp2_with fail
      (refine wp_region_btail 20 (by kernel_rfl) (by kernel_rfl) ?_; simp only [List.take_succ_cons, List.take_zero, List.drop_succ_cons, List.drop_zero]; (repeat (go_big_quiet_step ((first | (go_at_call 54; exact Calls.reg_pure (logop_unless_any _ _ _)) | (go_at_call 59; exact Calls.regrown_of (rangeErr_3 _ _ _ _ _ _ ho hn)))))); (with_reducible refine wpQuiet_nil ?_); intro W3 hreg; have hbW3 := below_of_reg hreg; clear hreg; obtain ⟨hcW3, hfW3⟩ := bcell hbW3)
      go_wp2_with (first | (go_at_call 52; refine (logop_first_list [_, _, _, _, _] W3 (by simp)).mono ?_; rintro e w' ⟨rfl, rfl⟩))
      go_ret
      refine ⟨retI (opE_of rfl HForm.out ?_ ?_ ?_), by (repeat (first | assumption | exact Below.refl _ _ | refine bel_drewN ?_ _ | refine bel_alloc ?_ _ | refine bel_trans ?_ (by assumption) | refine Below.trans ?_ (by assumption)))⟩
      all_goals
        (try rw [← HL.out])
        (try simp only [isEmpty_eq, intBeq])
        rw [Bool.eq_iff_iff]
        (try simp [opShape, opHas, inB, -ByteArray.size_eq_zero_iff])
        (try omega)
set_option maxRecDepth 100000 in
set_option maxHeartbeats 1000000 in
theorem CheckOp_4 (a e c : Int) (o n : ByteArray) (w : World) (ho : o.size ≤ 3100) (hn : n.size ≤ 3100) :
    Calls Tryd.prog 21 #[.agg #[.int .i64 4, .int .i64 a, .int .i64 e, .int .i64 c, .string o, .string n]] w fun r w' => r = .returned (.int .i64 (opE ⟨4, a, e, c, o, n⟩)) ∧ Below w.heap.size w w' := by
  have hk : inB 4 0 6 = true := rfl
  have hidx : ∀ W, (Instr.index 101 (.agg kindsCells) (.int .i64 4)).run Tryd.prog W = .ok (.agg #[.bool true, .bool false, .bool true, .bool false, .bool false]) W := fun W => by kernel_rfl
  obtain ⟨Ba, hBa⟩ : ∃ b, (a == 0) = b := ⟨_, rfl⟩
  obtain ⟨Be, hBe⟩ : ∃ b, (e == 0) = b := ⟨_, rfl⟩
  obtain ⟨Bc, hBc⟩ : ∃ b, (c == 0) = b := ⟨_, rfl⟩
  obtain ⟨Bo, hBo⟩ : ∃ b, o.toList.isEmpty = b := ⟨_, rfl⟩
  obtain ⟨Bn, hBn⟩ : ∃ b, n.toList.isEmpty = b := ⟨_, rfl⟩
  go_enter Tryd.func21, Tryd.ntmps21
  go_wp2_with (first | (go_at_call 57; refine (logop_within_any _ _ _ _).mono ?_; rintro e w' ⟨rfl, rfl⟩))
  refine wp_region_atail 4 _ (.cells #[.bool false, .bool false, .bool false, .bool false, .bool false] 100) (by kernel_rfl) (by kernel_rfl) rfl (by kernel_rfl) (fun ev X => by kernel_rfl) ?_
  apply Exists.intro
  refine ⟨fun X hX => ?_, ?_⟩
  · obtain ⟨hcX, hfX⟩ := bcell hX
    have hsX : w.heap.size < X.heap.size := by have := hX.size; simp at this; omega
    simp only [List.take_succ_cons, List.take_zero]
    (repeat (go_big_quiet_step ((first | (go_at_call 58; exact Calls.regrown_of (kinds_any _))))))
    exact wpQuiet_nil rfl
  · intro b1 W1 hbW1 hle hblk
    simp only [List.drop_succ_cons, List.drop_zero, Act.put, List.setIfInBounds_toArray, List.set_cons_succ, List.set_cons_zero]
    refine wpList_store_new rfl 100 _ _ rfl rfl b1 _ rfl rfl _ hbW1 hle 100 _ hblk (by kernel_rfl) rfl (by kernel_rfl) ?_
    intro W2 hb2 hbox2 _
    obtain ⟨hcW2, hfW2⟩ := bcell hb2
    have hx2 := hbox2.cells
    have hs2 : w.heap.size < W2.heap.size := by have := hb2.size; simp at this; omega
    clear hbW1 hle hblk hidx
    apply wpList_nil
    go_upto_region 4 with (fail)
    go_cut [4] (fun s4 wx => s4 = .bool (opForm ⟨4, a, e, c, o, n⟩) ∧ W2 = wx)
    case first =>
      go_wp2_with fail
      all_goals
        go_meet
        refine ⟨congrArg Value.bool ?_, rfl⟩
        rw [isEmpty_eq] at hBo hBn
        simp only [opForm, opAt, opEnd, opCount, opOld, opNew, hBa, hBe, hBc, hBo, hBn]
        (try simp_all [inB])
    case rest =>
    obtain ⟨rfl, rfl⟩ := hcut
    obtain ⟨form, hform⟩ : ∃ b, b = opForm ⟨4, a, e, c, o, n⟩ := ⟨_, rfl⟩
    rw [← hform]
    have HForm := Lib.hid hform
    clear hform
    go_upto_region 14 with (fail)
    all_goals
      go_cut [7] (fun s7 wx => s7 = .int .i64 (opLong ⟨4, a, e, c, o, n⟩ : Nat) ∧ W2 = wx)
      case first =>
        go_wp2_with fail
        all_goals
          go_meet
          refine ⟨congrArg (Value.int .i64) ?_, rfl⟩
          simp only [opLong]
          omega
      case rest =>
      obtain ⟨rfl, rfl⟩ := hcut
      obtain ⟨L, hL⟩ : ∃ b, b = opLong ⟨4, a, e, c, o, n⟩ := ⟨_, rfl⟩
      rw [← hL]
      have HL := Lib.hid hL
      clear hL
      go_wp2_with fail
      (refine wp_region_btail 20 (by kernel_rfl) (by kernel_rfl) ?_; simp only [List.take_succ_cons, List.take_zero, List.drop_succ_cons, List.drop_zero]; (repeat (go_big_quiet_step ((first | (go_at_call 54; exact Calls.reg_pure (logop_unless_any _ _ _)) | (go_at_call 59; exact Calls.regrown_of (rangeErr_4 _ _ _ _ _ _ ho hn)))))); (with_reducible refine wpQuiet_nil ?_); intro W3 hreg; have hbW3 := below_of_reg hreg; clear hreg; obtain ⟨hcW3, hfW3⟩ := bcell hbW3)
      go_wp2_with (first | (go_at_call 52; refine (logop_first_list [_, _, _, _, _] W3 (by simp)).mono ?_; rintro e w' ⟨rfl, rfl⟩))
      go_ret
      refine ⟨retI (opE_of rfl HForm.out ?_ ?_ ?_), by (repeat (first | assumption | exact Below.refl _ _ | refine bel_drewN ?_ _ | refine bel_alloc ?_ _ | refine bel_trans ?_ (by assumption) | refine Below.trans ?_ (by assumption)))⟩
      all_goals
        (try rw [← HL.out])
        (try simp only [isEmpty_eq, intBeq])
        rw [Bool.eq_iff_iff]
        (try simp [opShape, opHas, inB, -ByteArray.size_eq_zero_iff])
        (try omega)
set_option maxRecDepth 100000 in
set_option maxHeartbeats 1000000 in
theorem CheckOp_5 (a e c : Int) (o n : ByteArray) (w : World) (ho : o.size ≤ 3100) (hn : n.size ≤ 3100) :
    Calls Tryd.prog 21 #[.agg #[.int .i64 5, .int .i64 a, .int .i64 e, .int .i64 c, .string o, .string n]] w fun r w' => r = .returned (.int .i64 (opE ⟨5, a, e, c, o, n⟩)) ∧ Below w.heap.size w w' := by
  have hk : inB 5 0 6 = true := rfl
  have hidx : ∀ W, (Instr.index 101 (.agg kindsCells) (.int .i64 5)).run Tryd.prog W = .ok (.agg #[.bool true, .bool false, .bool true, .bool false, .bool false]) W := fun W => by kernel_rfl
  obtain ⟨Ba, hBa⟩ : ∃ b, (a == 0) = b := ⟨_, rfl⟩
  obtain ⟨Be, hBe⟩ : ∃ b, (e == 0) = b := ⟨_, rfl⟩
  obtain ⟨Bc, hBc⟩ : ∃ b, (c == 0) = b := ⟨_, rfl⟩
  obtain ⟨Bo, hBo⟩ : ∃ b, o.toList.isEmpty = b := ⟨_, rfl⟩
  obtain ⟨Bn, hBn⟩ : ∃ b, n.toList.isEmpty = b := ⟨_, rfl⟩
  go_enter Tryd.func21, Tryd.ntmps21
  go_wp2_with (first | (go_at_call 57; refine (logop_within_any _ _ _ _).mono ?_; rintro e w' ⟨rfl, rfl⟩))
  refine wp_region_atail 4 _ (.cells #[.bool false, .bool false, .bool false, .bool false, .bool false] 100) (by kernel_rfl) (by kernel_rfl) rfl (by kernel_rfl) (fun ev X => by kernel_rfl) ?_
  apply Exists.intro
  refine ⟨fun X hX => ?_, ?_⟩
  · obtain ⟨hcX, hfX⟩ := bcell hX
    have hsX : w.heap.size < X.heap.size := by have := hX.size; simp at this; omega
    simp only [List.take_succ_cons, List.take_zero]
    (repeat (go_big_quiet_step ((first | (go_at_call 58; exact Calls.regrown_of (kinds_any _))))))
    exact wpQuiet_nil rfl
  · intro b1 W1 hbW1 hle hblk
    simp only [List.drop_succ_cons, List.drop_zero, Act.put, List.setIfInBounds_toArray, List.set_cons_succ, List.set_cons_zero]
    refine wpList_store_new rfl 100 _ _ rfl rfl b1 _ rfl rfl _ hbW1 hle 100 _ hblk (by kernel_rfl) rfl (by kernel_rfl) ?_
    intro W2 hb2 hbox2 _
    obtain ⟨hcW2, hfW2⟩ := bcell hb2
    have hx2 := hbox2.cells
    have hs2 : w.heap.size < W2.heap.size := by have := hb2.size; simp at this; omega
    clear hbW1 hle hblk hidx
    apply wpList_nil
    go_upto_region 4 with (fail)
    go_cut [4] (fun s4 wx => s4 = .bool (opForm ⟨5, a, e, c, o, n⟩) ∧ W2 = wx)
    case first =>
      go_wp2_with fail
      all_goals
        go_meet
        refine ⟨congrArg Value.bool ?_, rfl⟩
        rw [isEmpty_eq] at hBo hBn
        simp only [opForm, opAt, opEnd, opCount, opOld, opNew, hBa, hBe, hBc, hBo, hBn]
        (try simp_all [inB])
    case rest =>
    obtain ⟨rfl, rfl⟩ := hcut
    obtain ⟨form, hform⟩ : ∃ b, b = opForm ⟨5, a, e, c, o, n⟩ := ⟨_, rfl⟩
    rw [← hform]
    have HForm := Lib.hid hform
    clear hform
    go_upto_region 14 with (fail)
    all_goals
      go_cut [7] (fun s7 wx => s7 = .int .i64 (opLong ⟨5, a, e, c, o, n⟩ : Nat) ∧ W2 = wx)
      case first =>
        go_wp2_with fail
        all_goals
          go_meet
          refine ⟨congrArg (Value.int .i64) ?_, rfl⟩
          simp only [opLong]
          omega
      case rest =>
      obtain ⟨rfl, rfl⟩ := hcut
      obtain ⟨L, hL⟩ : ∃ b, b = opLong ⟨5, a, e, c, o, n⟩ := ⟨_, rfl⟩
      rw [← hL]
      have HL := Lib.hid hL
      clear hL
      go_wp2_with fail
      (refine wp_region_btail 20 (by kernel_rfl) (by kernel_rfl) ?_; simp only [List.take_succ_cons, List.take_zero, List.drop_succ_cons, List.drop_zero]; (repeat (go_big_quiet_step ((first | (go_at_call 54; exact Calls.reg_pure (logop_unless_any _ _ _)) | (go_at_call 59; exact Calls.regrown_of (rangeErr_5 _ _ _ _ _ _ ho hn)))))); (with_reducible refine wpQuiet_nil ?_); intro W3 hreg; have hbW3 := below_of_reg hreg; clear hreg; obtain ⟨hcW3, hfW3⟩ := bcell hbW3)
      go_wp2_with (first | (go_at_call 52; refine (logop_first_list [_, _, _, _, _] W3 (by simp)).mono ?_; rintro e w' ⟨rfl, rfl⟩))
      go_ret
      refine ⟨retI (opE_of rfl HForm.out ?_ ?_ ?_), by (repeat (first | assumption | exact Below.refl _ _ | refine bel_drewN ?_ _ | refine bel_alloc ?_ _ | refine bel_trans ?_ (by assumption) | refine Below.trans ?_ (by assumption)))⟩
      all_goals
        (try rw [← HL.out])
        (try simp only [isEmpty_eq, intBeq])
        rw [Bool.eq_iff_iff]
        (try simp [opShape, opHas, inB, -ByteArray.size_eq_zero_iff])
        (try omega)
set_option maxRecDepth 100000 in
set_option maxHeartbeats 1000000 in
theorem CheckOp_6 (a e c : Int) (o n : ByteArray) (w : World) (ho : o.size ≤ 3100) (hn : n.size ≤ 3100) :
    Calls Tryd.prog 21 #[.agg #[.int .i64 6, .int .i64 a, .int .i64 e, .int .i64 c, .string o, .string n]] w fun r w' => r = .returned (.int .i64 (opE ⟨6, a, e, c, o, n⟩)) ∧ Below w.heap.size w w' := by
  have hk : inB 6 0 6 = true := rfl
  have hidx : ∀ W, (Instr.index 101 (.agg kindsCells) (.int .i64 6)).run Tryd.prog W = .ok (.agg #[.bool false, .bool false, .bool false, .bool true, .bool true]) W := fun W => by kernel_rfl
  obtain ⟨Ba, hBa⟩ : ∃ b, (a == 0) = b := ⟨_, rfl⟩
  obtain ⟨Be, hBe⟩ : ∃ b, (e == 0) = b := ⟨_, rfl⟩
  obtain ⟨Bc, hBc⟩ : ∃ b, (c == 0) = b := ⟨_, rfl⟩
  obtain ⟨Bo, hBo⟩ : ∃ b, o.toList.isEmpty = b := ⟨_, rfl⟩
  obtain ⟨Bn, hBn⟩ : ∃ b, n.toList.isEmpty = b := ⟨_, rfl⟩
  go_enter Tryd.func21, Tryd.ntmps21
  go_wp2_with (first | (go_at_call 57; refine (logop_within_any _ _ _ _).mono ?_; rintro e w' ⟨rfl, rfl⟩))
  refine wp_region_atail 4 _ (.cells #[.bool false, .bool false, .bool false, .bool false, .bool false] 100) (by kernel_rfl) (by kernel_rfl) rfl (by kernel_rfl) (fun ev X => by kernel_rfl) ?_
  apply Exists.intro
  refine ⟨fun X hX => ?_, ?_⟩
  · obtain ⟨hcX, hfX⟩ := bcell hX
    have hsX : w.heap.size < X.heap.size := by have := hX.size; simp at this; omega
    simp only [List.take_succ_cons, List.take_zero]
    (repeat (go_big_quiet_step ((first | (go_at_call 58; exact Calls.regrown_of (kinds_any _))))))
    exact wpQuiet_nil rfl
  · intro b1 W1 hbW1 hle hblk
    simp only [List.drop_succ_cons, List.drop_zero, Act.put, List.setIfInBounds_toArray, List.set_cons_succ, List.set_cons_zero]
    refine wpList_store_new rfl 100 _ _ rfl rfl b1 _ rfl rfl _ hbW1 hle 100 _ hblk (by kernel_rfl) rfl (by kernel_rfl) ?_
    intro W2 hb2 hbox2 _
    obtain ⟨hcW2, hfW2⟩ := bcell hb2
    have hx2 := hbox2.cells
    have hs2 : w.heap.size < W2.heap.size := by have := hb2.size; simp at this; omega
    clear hbW1 hle hblk hidx
    apply wpList_nil
    go_upto_region 4 with (fail)
    go_cut [4] (fun s4 wx => s4 = .bool (opForm ⟨6, a, e, c, o, n⟩) ∧ W2 = wx)
    case first =>
      go_wp2_with fail
      all_goals
        go_meet
        refine ⟨congrArg Value.bool ?_, rfl⟩
        rw [isEmpty_eq] at hBo hBn
        simp only [opForm, opAt, opEnd, opCount, opOld, opNew, hBa, hBe, hBc, hBo, hBn]
        (try simp_all [inB])
    case rest =>
    obtain ⟨rfl, rfl⟩ := hcut
    obtain ⟨form, hform⟩ : ∃ b, b = opForm ⟨6, a, e, c, o, n⟩ := ⟨_, rfl⟩
    rw [← hform]
    have HForm := Lib.hid hform
    clear hform
    go_upto_region 14 with (fail)
    all_goals
      go_cut [7] (fun s7 wx => s7 = .int .i64 (opLong ⟨6, a, e, c, o, n⟩ : Nat) ∧ W2 = wx)
      case first =>
        go_wp2_with fail
        all_goals
          go_meet
          refine ⟨congrArg (Value.int .i64) ?_, rfl⟩
          simp only [opLong]
          omega
      case rest =>
      obtain ⟨rfl, rfl⟩ := hcut
      obtain ⟨L, hL⟩ : ∃ b, b = opLong ⟨6, a, e, c, o, n⟩ := ⟨_, rfl⟩
      rw [← hL]
      have HL := Lib.hid hL
      clear hL
      go_wp2_with fail
      (refine wp_region_btail 20 (by kernel_rfl) (by kernel_rfl) ?_; simp only [List.take_succ_cons, List.take_zero, List.drop_succ_cons, List.drop_zero]; (repeat (go_big_quiet_step ((first | (go_at_call 54; exact Calls.reg_pure (logop_unless_any _ _ _)) | (go_at_call 59; exact Calls.regrown_of (rangeErr_6 _ _ _ _ _ _ ho hn)))))); (with_reducible refine wpQuiet_nil ?_); intro W3 hreg; have hbW3 := below_of_reg hreg; clear hreg; obtain ⟨hcW3, hfW3⟩ := bcell hbW3)
      go_wp2_with (first | (go_at_call 52; refine (logop_first_list [_, _, _, _, _] W3 (by simp)).mono ?_; rintro e w' ⟨rfl, rfl⟩))
      go_ret
      refine ⟨retI (opE_of rfl HForm.out ?_ ?_ ?_), by (repeat (first | assumption | exact Below.refl _ _ | refine bel_drewN ?_ _ | refine bel_alloc ?_ _ | refine bel_trans ?_ (by assumption) | refine Below.trans ?_ (by assumption)))⟩
      all_goals
        (try rw [← HL.out])
        (try simp only [isEmpty_eq, intBeq])
        rw [Bool.eq_iff_iff]
        (try simp [opShape, opHas, inB, -ByteArray.size_eq_zero_iff])
        (try omega)
end Go.Proofs.YtgmipogidmcilaaDoor
