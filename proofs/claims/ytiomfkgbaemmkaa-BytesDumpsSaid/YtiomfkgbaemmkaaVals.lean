/-
  Values of fields: plain words, and valueErr.
-/
import Derived.Test.YtiomfkgbaemmkaaLay3
import Derived.Test.YtiomfkgbaemmkaaRegion
import Derived.Deep.DeepCutAuto
namespace Go.Proofs.Ytiomfkgbaemmkaa
set_option linter.unusedVariables false
set_option linter.unusedSimpArgs false
open Go.RowKit Go.Sort

def formB (k n : Int) (s : ByteArray) (ns : List Int) : Bool := (k == 0 || n == 0) && ((k == 1 || k == 2) || s.toList.isEmpty) && (k == 3 || (ns.length : Int) == 0)
def allB (ns : List Int) : Bool := ns.all fun x => inB x 0 65535
def fits0 (k z n : Int) : Bool := !(k == 0) || inB n 0 (256 ^ z.toNat - 1)
def fitsB (k z n : Int) (ns : List Int) : Bool := fits0 k z n && allB ns
def valE (k z n : Int) (s : ByteArray) (ns : List Int) : Int :=
  firstE [unl (formB k n s ns) 3, unl (fitsB k z n ns) 2, unl (!(k == 1) || ((s.size : Int) == z)) 10, unl (!(opn k) || (decide ((s.size : Int) ≤ z) && decide ((ns.length : Int) ≤ z))) 8]

theorem allB_succ (ns : List Int) (j : Nat) (h : j < ns.length) : allB (ns.take (j + 1)) = (allB (ns.take j) && inB ns[j] 0 65535) := by
  unfold allB
  rw [List.take_succ_eq_append_getElem h, List.all_append]
  simp only [List.all_cons, List.all_nil, Bool.and_true]

set_option maxRecDepth 100000 in
set_option maxHeartbeats 4000000 in
theorem valueErr0 (z n : Int) (s : ByteArray) (A : Option Addr) (c : Nat) (ns : List Int) (w : World) (hz : fldE 0 z = 0) (hs : s.size ≤ maxLen) (hn : ns.length ≤ maxLen) (hr : Rd w w.heap.size A (ns.map (.int .i64))) :
    Calls Try.prog 71 #[.agg #[.int .i64 0, .int .i64 z], .agg #[.int .i64 n, .string s, .slice A ns.length c]] w fun e w' => e = .returned (.int .i64 (valE 0 z n s ns)) ∧ Below w.heap.size w w' := by
  obtain ⟨_, _, hz1, hz2⟩ := fldE_zero hz
  have hz1' : 1 ≤ z := hz1
  have hz2' : z ≤ 6 := hz2
  clear hz hz1 hz2
  unfold maxLen at hs hn
  obtain ⟨hp, hp1⟩ := And.intro (pow256_le z.toNat (by omega)) (pow256_pos z.toNat)
  have hop : opn 0 = false := rfl
  go_enter Try.func71, Try.ntmps71
  go_wp2_with fail
  go_quiet (fail)
  go_upto_region 3 with (fail)
  go_cut [8] (fun s8 wx => s8 = .bool (formB 0 n s ns) ∧ wx = ((w.alloc (Obj.cells #[.int .i64 0, .int .i64 z] 67)).alloc (Obj.cells #[.int .i64 n, .string s, .slice A ns.length c] 69)).drewN nq)
  case first =>
    cases hn0 : (n == 0)
    · go_wp2_with fail
      all_goals (go_meet; exact ⟨congrArg Value.bool (by simp [formB, hn0, *]), rfl⟩)
    · go_wp2_with fail
      all_goals (go_meet; exact ⟨congrArg Value.bool (by simp [formB, hn0, *]), rfl⟩)
  case rest =>
    obtain ⟨rfl, rfl⟩ := hcut
    obtain ⟨form, hform⟩ : ∃ b, b = formB 0 n s ns := ⟨_, rfl⟩
    rw [← hform]
    have HForm := Lib.hid hform
    clear hform
    go_wp2_with fail
    (refine wp_region_quiet_below (by kernel_rfl) (by kernel_rfl) ?_; (repeat (go_big_quiet_step ((first | (go_at_call 58; exact Calls.reg_pure (limit_any _ _ (by omega) (by omega))) | (go_at_call 49; exact Calls.reg_pure (within_any _ _ _ _)))))); (with_reducible refine wpQuiet_nil ?_); intro W1 hreg; have hbW1 := below_of_reg hreg; clear hreg; obtain ⟨hcW1, hfW1⟩ := bcell hbW1)
    have hb1 : Below w.heap.size w W1 := bel_trans (bel_drewN (bel_alloc (bel_alloc (Below.refl _ _) _) _) _) hbW1
    have hz1 : w.heap.size + 1 < W1.heap.size := by have := hbW1.size; simp at this; omega
    have hz0 : w.heap.size < W1.heap.size := by omega
    have hr1 := hr.below hb1
    clear hfW1 hr
    go_wp2_with fail
    go_loop [9, 63] (fun f i => ∃ j : Nat, j ≤ ns.length ∧ i = .int .i64 j ∧ f = .bool (fits0 0 z n && allB (ns.take j))) (fun _ i => ns.length - (intOf i).toNat)
    case atStart => exact ⟨0, Nat.zero_le _, rfl, by simp [fits0, allB]⟩
    case round =>
      obtain ⟨j, hj, rfl, rfl⟩ := hrel
      by_cases hlt : j < ns.length
      · obtain ⟨b, o, rfl, hB, hc⟩ := hr1.opened (by simp; omega)
        have c0 := hc j (.int .i64 ns[j]) (by simp [hlt])
        obtain ⟨x, hx⟩ : ∃ x, x = ns[j] := ⟨_, rfl⟩
        rw [← hx] at c0
        have hall := allB_succ ns j hlt
        rw [← hx] at hall
        have HA := Lib.hid hall
        clear hall hx hc hr1
        cases hf : (fits0 0 z n && allB (ns.take j))
        · go_wp2_with (first | (go_at_call 58; refine (limit_any _ _ (by omega) (by omega)).mono ?_; rintro e w' ⟨rfl, rfl⟩) | (go_at_call 49; refine (within_any _ _ _ _).mono ?_; rintro e w' ⟨rfl, rfl⟩))
          go_round
          case rel => exact ⟨j + 1, by omega, by go_num, by rw [HA.out, ← Bool.and_assoc, hf]; rfl⟩
          case measure => simp [intOf]; omega
        · go_wp2_with (first | (go_at_call 58; refine (limit_any _ _ (by omega) (by omega)).mono ?_; rintro e w' ⟨rfl, rfl⟩) | (go_at_call 49; refine (within_any _ _ _ _).mono ?_; rintro e w' ⟨rfl, rfl⟩))
          go_round
          case rel => exact ⟨j + 1, by omega, by go_num, by rw [HA.out, ← Bool.and_assoc, hf]; rfl⟩
          case measure => simp [intOf]; omega
      · obtain rfl : j = ns.length := by omega
        rw [List.take_length]
        by_cases h8 : (s.size : Int) ≤ z
        · have hfin : valE 0 z n s ns = firstE [unl form 3, unl (fits0 0 z n && allB ns) 2, unl true 10, unl true 8] := by rw [HForm.out]; simp [valE, fitsB, opn, h8]
          have HF := Lib.hid hfin
          clear hfin
          obtain ⟨fit, hfit⟩ : ∃ b, b = (fits0 0 z n && allB ns) := ⟨_, rfl⟩
          rw [← hfit]
          have HFit := Lib.hid hfit
          clear hfit
          go_wp2_with fail
          (refine wp_region_btail 36 (by kernel_rfl) (by kernel_rfl) ?_; simp only [List.take_succ_cons, List.take_zero, List.drop_succ_cons, List.drop_zero]; (repeat (go_big_quiet_step ((first | (go_at_call 48; exact Calls.reg_pure (unless_any _ _ _)) | (go_at_call 52; exact Calls.regrown_of (isOpen_any _ _ _)))))); (with_reducible refine wpQuiet_nil ?_); intro W2 hreg; have hbW2 := below_of_reg hreg; clear hreg; obtain ⟨hcW2, hfW2⟩ := bcell hbW2)
          go_wp2_with (go_at_call 46; refine (first_list [_, _, _, _] _ (by simp)).mono ?_; rintro e w' ⟨rfl, rfl⟩)
          go_ret
          exact ⟨retI (by rw [HF.out, HFit.out]), bel_alloc (bel_trans hb1 hbW2) _⟩
        · have hfin : valE 0 z n s ns = firstE [unl form 3, unl (fits0 0 z n && allB ns) 2, unl true 10, unl true 8] := by rw [HForm.out]; simp [valE, fitsB, opn, h8]
          have h8' : decide ((s.size : Int) ≤ z) = false := decide_eq_false h8
          clear h8
          have HF := Lib.hid hfin
          clear hfin
          obtain ⟨fit, hfit⟩ : ∃ b, b = (fits0 0 z n && allB ns) := ⟨_, rfl⟩
          rw [← hfit]
          have HFit := Lib.hid hfit
          clear hfit
          go_wp2_with fail
          (refine wp_region_btail 36 (by kernel_rfl) (by kernel_rfl) ?_; simp only [List.take_succ_cons, List.take_zero, List.drop_succ_cons, List.drop_zero]; (repeat (go_big_quiet_step ((first | (go_at_call 48; exact Calls.reg_pure (unless_any _ _ _)) | (go_at_call 52; exact Calls.regrown_of (isOpen_any _ _ _)))))); (with_reducible refine wpQuiet_nil ?_); intro W2 hreg; have hbW2 := below_of_reg hreg; clear hreg; obtain ⟨hcW2, hfW2⟩ := bcell hbW2)
          go_wp2_with (go_at_call 46; refine (first_list [_, _, _, _] _ (by simp)).mono ?_; rintro e w' ⟨rfl, rfl⟩)
          go_ret
          exact ⟨retI (by rw [HF.out, HFit.out]), bel_alloc (bel_trans hb1 hbW2) _⟩
set_option maxRecDepth 100000 in
set_option maxHeartbeats 4000000 in
theorem valueErr1 (z n : Int) (s : ByteArray) (A : Option Addr) (c : Nat) (ns : List Int) (w : World) (hz : fldE 1 z = 0) (hs : s.size ≤ maxLen) (hn : ns.length ≤ maxLen) (hr : Rd w w.heap.size A (ns.map (.int .i64))) :
    Calls Try.prog 71 #[.agg #[.int .i64 1, .int .i64 z], .agg #[.int .i64 n, .string s, .slice A ns.length c]] w fun e w' => e = .returned (.int .i64 (valE 1 z n s ns)) ∧ Below w.heap.size w w' := by
  obtain ⟨_, _, hz1, hz2⟩ := fldE_zero hz
  have hz1' : 1 ≤ z := hz1
  have hz2' : z ≤ 64 := hz2
  clear hz hz1 hz2
  unfold maxLen at hs hn
  skip
  have hop : opn 1 = false := rfl
  go_enter Try.func71, Try.ntmps71
  go_wp2_with fail
  go_quiet (fail)
  go_upto_region 3 with (fail)
  go_cut [8] (fun s8 wx => s8 = .bool (formB 1 n s ns) ∧ wx = ((w.alloc (Obj.cells #[.int .i64 1, .int .i64 z] 67)).alloc (Obj.cells #[.int .i64 n, .string s, .slice A ns.length c] 69)).drewN nq)
  case first =>
    cases hn0 : (n == 0)
    · go_wp2_with fail
      all_goals (go_meet; exact ⟨congrArg Value.bool (by simp [formB, hn0, *]), rfl⟩)
    · go_wp2_with fail
      all_goals (go_meet; exact ⟨congrArg Value.bool (by simp [formB, hn0, *]), rfl⟩)
  case rest =>
    obtain ⟨rfl, rfl⟩ := hcut
    obtain ⟨form, hform⟩ : ∃ b, b = formB 1 n s ns := ⟨_, rfl⟩
    rw [← hform]
    have HForm := Lib.hid hform
    clear hform
    go_wp2_with fail
    (refine wp_region_quiet_below (by kernel_rfl) (by kernel_rfl) ?_; (repeat (go_big_quiet_step ((first | (go_at_call 58; exact Calls.reg_pure (limit_any _ _ (by omega) (by omega))) | (go_at_call 49; exact Calls.reg_pure (within_any _ _ _ _)))))); (with_reducible refine wpQuiet_nil ?_); intro W1 hreg; have hbW1 := below_of_reg hreg; clear hreg; obtain ⟨hcW1, hfW1⟩ := bcell hbW1)
    have hb1 : Below w.heap.size w W1 := bel_trans (bel_drewN (bel_alloc (bel_alloc (Below.refl _ _) _) _) _) hbW1
    have hz1 : w.heap.size + 1 < W1.heap.size := by have := hbW1.size; simp at this; omega
    have hz0 : w.heap.size < W1.heap.size := by omega
    have hr1 := hr.below hb1
    clear hfW1 hr
    go_wp2_with fail
    go_loop [9, 63] (fun f i => ∃ j : Nat, j ≤ ns.length ∧ i = .int .i64 j ∧ f = .bool (fits0 1 z n && allB (ns.take j))) (fun _ i => ns.length - (intOf i).toNat)
    case atStart => exact ⟨0, Nat.zero_le _, rfl, by simp [fits0, allB]⟩
    case round =>
      obtain ⟨j, hj, rfl, rfl⟩ := hrel
      by_cases hlt : j < ns.length
      · obtain ⟨b, o, rfl, hB, hc⟩ := hr1.opened (by simp; omega)
        have c0 := hc j (.int .i64 ns[j]) (by simp [hlt])
        obtain ⟨x, hx⟩ : ∃ x, x = ns[j] := ⟨_, rfl⟩
        rw [← hx] at c0
        have hall := allB_succ ns j hlt
        rw [← hx] at hall
        have HA := Lib.hid hall
        clear hall hx hc hr1
        cases hf : (fits0 1 z n && allB (ns.take j))
        · go_wp2_with (first | (go_at_call 58; refine (limit_any _ _ (by omega) (by omega)).mono ?_; rintro e w' ⟨rfl, rfl⟩) | (go_at_call 49; refine (within_any _ _ _ _).mono ?_; rintro e w' ⟨rfl, rfl⟩))
          go_round
          case rel => exact ⟨j + 1, by omega, by go_num, by rw [HA.out, ← Bool.and_assoc, hf]; rfl⟩
          case measure => simp [intOf]; omega
        · go_wp2_with (first | (go_at_call 58; refine (limit_any _ _ (by omega) (by omega)).mono ?_; rintro e w' ⟨rfl, rfl⟩) | (go_at_call 49; refine (within_any _ _ _ _).mono ?_; rintro e w' ⟨rfl, rfl⟩))
          go_round
          case rel => exact ⟨j + 1, by omega, by go_num, by rw [HA.out, ← Bool.and_assoc, hf]; rfl⟩
          case measure => simp [intOf]; omega
      · obtain rfl : j = ns.length := by omega
        rw [List.take_length]
        by_cases h8 : (s.size : Int) ≤ z
        · have hfin : valE 1 z n s ns = firstE [unl form 3, unl (fits0 1 z n && allB ns) 2, unl ((s.size : Int) == z) 10, unl true 8] := by rw [HForm.out]; simp [valE, fitsB, opn, h8]
          have HF := Lib.hid hfin
          clear hfin
          obtain ⟨fit, hfit⟩ : ∃ b, b = (fits0 1 z n && allB ns) := ⟨_, rfl⟩
          rw [← hfit]
          have HFit := Lib.hid hfit
          clear hfit
          go_wp2_with fail
          (refine wp_region_btail 36 (by kernel_rfl) (by kernel_rfl) ?_; simp only [List.take_succ_cons, List.take_zero, List.drop_succ_cons, List.drop_zero]; (repeat (go_big_quiet_step ((first | (go_at_call 48; exact Calls.reg_pure (unless_any _ _ _)) | (go_at_call 52; exact Calls.regrown_of (isOpen_any _ _ _)))))); (with_reducible refine wpQuiet_nil ?_); intro W2 hreg; have hbW2 := below_of_reg hreg; clear hreg; obtain ⟨hcW2, hfW2⟩ := bcell hbW2)
          go_wp2_with (go_at_call 46; refine (first_list [_, _, _, _] _ (by simp)).mono ?_; rintro e w' ⟨rfl, rfl⟩)
          go_ret
          exact ⟨retI (by rw [HF.out, HFit.out]), bel_alloc (bel_trans hb1 hbW2) _⟩
        · have hfin : valE 1 z n s ns = firstE [unl form 3, unl (fits0 1 z n && allB ns) 2, unl ((s.size : Int) == z) 10, unl true 8] := by rw [HForm.out]; simp [valE, fitsB, opn, h8]
          have h8' : decide ((s.size : Int) ≤ z) = false := decide_eq_false h8
          clear h8
          have HF := Lib.hid hfin
          clear hfin
          obtain ⟨fit, hfit⟩ : ∃ b, b = (fits0 1 z n && allB ns) := ⟨_, rfl⟩
          rw [← hfit]
          have HFit := Lib.hid hfit
          clear hfit
          go_wp2_with fail
          (refine wp_region_btail 36 (by kernel_rfl) (by kernel_rfl) ?_; simp only [List.take_succ_cons, List.take_zero, List.drop_succ_cons, List.drop_zero]; (repeat (go_big_quiet_step ((first | (go_at_call 48; exact Calls.reg_pure (unless_any _ _ _)) | (go_at_call 52; exact Calls.regrown_of (isOpen_any _ _ _)))))); (with_reducible refine wpQuiet_nil ?_); intro W2 hreg; have hbW2 := below_of_reg hreg; clear hreg; obtain ⟨hcW2, hfW2⟩ := bcell hbW2)
          go_wp2_with (go_at_call 46; refine (first_list [_, _, _, _] _ (by simp)).mono ?_; rintro e w' ⟨rfl, rfl⟩)
          go_ret
          exact ⟨retI (by rw [HF.out, HFit.out]), bel_alloc (bel_trans hb1 hbW2) _⟩
set_option maxRecDepth 100000 in
set_option maxHeartbeats 4000000 in
theorem valueErr2 (z n : Int) (s : ByteArray) (A : Option Addr) (c : Nat) (ns : List Int) (w : World) (hz : fldE 2 z = 0) (hs : s.size ≤ maxLen) (hn : ns.length ≤ maxLen) (hr : Rd w w.heap.size A (ns.map (.int .i64))) :
    Calls Try.prog 71 #[.agg #[.int .i64 2, .int .i64 z], .agg #[.int .i64 n, .string s, .slice A ns.length c]] w fun e w' => e = .returned (.int .i64 (valE 2 z n s ns)) ∧ Below w.heap.size w w' := by
  obtain ⟨_, _, hz1, hz2⟩ := fldE_zero hz
  have hz1' : 0 ≤ z := hz1
  have hz2' : z ≤ 255 := hz2
  clear hz hz1 hz2
  unfold maxLen at hs hn
  skip
  have hop : opn 2 = true := rfl
  go_enter Try.func71, Try.ntmps71
  go_wp2_with fail
  go_quiet (fail)
  go_upto_region 3 with (fail)
  go_cut [8] (fun s8 wx => s8 = .bool (formB 2 n s ns) ∧ wx = ((w.alloc (Obj.cells #[.int .i64 2, .int .i64 z] 67)).alloc (Obj.cells #[.int .i64 n, .string s, .slice A ns.length c] 69)).drewN nq)
  case first =>
    cases hn0 : (n == 0)
    · go_wp2_with fail
      all_goals (go_meet; exact ⟨congrArg Value.bool (by simp [formB, hn0, *]), rfl⟩)
    · go_wp2_with fail
      all_goals (go_meet; exact ⟨congrArg Value.bool (by simp [formB, hn0, *]), rfl⟩)
  case rest =>
    obtain ⟨rfl, rfl⟩ := hcut
    obtain ⟨form, hform⟩ : ∃ b, b = formB 2 n s ns := ⟨_, rfl⟩
    rw [← hform]
    have HForm := Lib.hid hform
    clear hform
    go_wp2_with fail
    (refine wp_region_quiet_below (by kernel_rfl) (by kernel_rfl) ?_; (repeat (go_big_quiet_step ((first | (go_at_call 58; exact Calls.reg_pure (limit_any _ _ (by omega) (by omega))) | (go_at_call 49; exact Calls.reg_pure (within_any _ _ _ _)))))); (with_reducible refine wpQuiet_nil ?_); intro W1 hreg; have hbW1 := below_of_reg hreg; clear hreg; obtain ⟨hcW1, hfW1⟩ := bcell hbW1)
    have hb1 : Below w.heap.size w W1 := bel_trans (bel_drewN (bel_alloc (bel_alloc (Below.refl _ _) _) _) _) hbW1
    have hz1 : w.heap.size + 1 < W1.heap.size := by have := hbW1.size; simp at this; omega
    have hz0 : w.heap.size < W1.heap.size := by omega
    have hr1 := hr.below hb1
    clear hfW1 hr
    go_wp2_with fail
    go_loop [9, 63] (fun f i => ∃ j : Nat, j ≤ ns.length ∧ i = .int .i64 j ∧ f = .bool (fits0 2 z n && allB (ns.take j))) (fun _ i => ns.length - (intOf i).toNat)
    case atStart => exact ⟨0, Nat.zero_le _, rfl, by simp [fits0, allB]⟩
    case round =>
      obtain ⟨j, hj, rfl, rfl⟩ := hrel
      by_cases hlt : j < ns.length
      · obtain ⟨b, o, rfl, hB, hc⟩ := hr1.opened (by simp; omega)
        have c0 := hc j (.int .i64 ns[j]) (by simp [hlt])
        obtain ⟨x, hx⟩ : ∃ x, x = ns[j] := ⟨_, rfl⟩
        rw [← hx] at c0
        have hall := allB_succ ns j hlt
        rw [← hx] at hall
        have HA := Lib.hid hall
        clear hall hx hc hr1
        cases hf : (fits0 2 z n && allB (ns.take j))
        · go_wp2_with (first | (go_at_call 58; refine (limit_any _ _ (by omega) (by omega)).mono ?_; rintro e w' ⟨rfl, rfl⟩) | (go_at_call 49; refine (within_any _ _ _ _).mono ?_; rintro e w' ⟨rfl, rfl⟩))
          go_round
          case rel => exact ⟨j + 1, by omega, by go_num, by rw [HA.out, ← Bool.and_assoc, hf]; rfl⟩
          case measure => simp [intOf]; omega
        · go_wp2_with (first | (go_at_call 58; refine (limit_any _ _ (by omega) (by omega)).mono ?_; rintro e w' ⟨rfl, rfl⟩) | (go_at_call 49; refine (within_any _ _ _ _).mono ?_; rintro e w' ⟨rfl, rfl⟩))
          go_round
          case rel => exact ⟨j + 1, by omega, by go_num, by rw [HA.out, ← Bool.and_assoc, hf]; rfl⟩
          case measure => simp [intOf]; omega
      · obtain rfl : j = ns.length := by omega
        rw [List.take_length]
        by_cases h8 : (s.size : Int) ≤ z
        · have hfin : valE 2 z n s ns = firstE [unl form 3, unl (fits0 2 z n && allB ns) 2, unl true 10, unl (decide ((ns.length : Int) ≤ z)) 8] := by rw [HForm.out]; simp [valE, fitsB, opn, h8]
          have HF := Lib.hid hfin
          clear hfin
          obtain ⟨fit, hfit⟩ : ∃ b, b = (fits0 2 z n && allB ns) := ⟨_, rfl⟩
          rw [← hfit]
          have HFit := Lib.hid hfit
          clear hfit
          go_wp2_with fail
          (refine wp_region_btail 36 (by kernel_rfl) (by kernel_rfl) ?_; simp only [List.take_succ_cons, List.take_zero, List.drop_succ_cons, List.drop_zero]; (repeat (go_big_quiet_step ((first | (go_at_call 48; exact Calls.reg_pure (unless_any _ _ _)) | (go_at_call 52; exact Calls.regrown_of (isOpen_any _ _ _)))))); (with_reducible refine wpQuiet_nil ?_); intro W2 hreg; have hbW2 := below_of_reg hreg; clear hreg; obtain ⟨hcW2, hfW2⟩ := bcell hbW2)
          go_wp2_with (go_at_call 46; refine (first_list [_, _, _, _] _ (by simp)).mono ?_; rintro e w' ⟨rfl, rfl⟩)
          go_ret
          exact ⟨retI (by rw [HF.out, HFit.out]), bel_alloc (bel_trans hb1 hbW2) _⟩
        · have hfin : valE 2 z n s ns = firstE [unl form 3, unl (fits0 2 z n && allB ns) 2, unl true 10, unl false 8] := by rw [HForm.out]; simp [valE, fitsB, opn, h8]
          have h8' : decide ((s.size : Int) ≤ z) = false := decide_eq_false h8
          clear h8
          have HF := Lib.hid hfin
          clear hfin
          obtain ⟨fit, hfit⟩ : ∃ b, b = (fits0 2 z n && allB ns) := ⟨_, rfl⟩
          rw [← hfit]
          have HFit := Lib.hid hfit
          clear hfit
          go_wp2_with fail
          (refine wp_region_btail 36 (by kernel_rfl) (by kernel_rfl) ?_; simp only [List.take_succ_cons, List.take_zero, List.drop_succ_cons, List.drop_zero]; (repeat (go_big_quiet_step ((first | (go_at_call 48; exact Calls.reg_pure (unless_any _ _ _)) | (go_at_call 52; exact Calls.regrown_of (isOpen_any _ _ _)))))); (with_reducible refine wpQuiet_nil ?_); intro W2 hreg; have hbW2 := below_of_reg hreg; clear hreg; obtain ⟨hcW2, hfW2⟩ := bcell hbW2)
          go_wp2_with (go_at_call 46; refine (first_list [_, _, _, _] _ (by simp)).mono ?_; rintro e w' ⟨rfl, rfl⟩)
          go_ret
          exact ⟨retI (by rw [HF.out, HFit.out]), bel_alloc (bel_trans hb1 hbW2) _⟩
set_option maxRecDepth 100000 in
set_option maxHeartbeats 4000000 in
theorem valueErr3 (z n : Int) (s : ByteArray) (A : Option Addr) (c : Nat) (ns : List Int) (w : World) (hz : fldE 3 z = 0) (hs : s.size ≤ maxLen) (hn : ns.length ≤ maxLen) (hr : Rd w w.heap.size A (ns.map (.int .i64))) :
    Calls Try.prog 71 #[.agg #[.int .i64 3, .int .i64 z], .agg #[.int .i64 n, .string s, .slice A ns.length c]] w fun e w' => e = .returned (.int .i64 (valE 3 z n s ns)) ∧ Below w.heap.size w w' := by
  obtain ⟨_, _, hz1, hz2⟩ := fldE_zero hz
  have hz1' : 0 ≤ z := hz1
  have hz2' : z ≤ 127 := hz2
  clear hz hz1 hz2
  unfold maxLen at hs hn
  skip
  have hop : opn 3 = true := rfl
  go_enter Try.func71, Try.ntmps71
  go_wp2_with fail
  go_quiet (fail)
  go_upto_region 3 with (fail)
  go_cut [8] (fun s8 wx => s8 = .bool (formB 3 n s ns) ∧ wx = ((w.alloc (Obj.cells #[.int .i64 3, .int .i64 z] 67)).alloc (Obj.cells #[.int .i64 n, .string s, .slice A ns.length c] 69)).drewN nq)
  case first =>
    cases hn0 : (n == 0)
    · go_wp2_with fail
      all_goals (go_meet; exact ⟨congrArg Value.bool (by simp [formB, hn0, *]), rfl⟩)
    · go_wp2_with fail
      all_goals (go_meet; exact ⟨congrArg Value.bool (by simp [formB, hn0, *]), rfl⟩)
  case rest =>
    obtain ⟨rfl, rfl⟩ := hcut
    obtain ⟨form, hform⟩ : ∃ b, b = formB 3 n s ns := ⟨_, rfl⟩
    rw [← hform]
    have HForm := Lib.hid hform
    clear hform
    go_wp2_with fail
    (refine wp_region_quiet_below (by kernel_rfl) (by kernel_rfl) ?_; (repeat (go_big_quiet_step ((first | (go_at_call 58; exact Calls.reg_pure (limit_any _ _ (by omega) (by omega))) | (go_at_call 49; exact Calls.reg_pure (within_any _ _ _ _)))))); (with_reducible refine wpQuiet_nil ?_); intro W1 hreg; have hbW1 := below_of_reg hreg; clear hreg; obtain ⟨hcW1, hfW1⟩ := bcell hbW1)
    have hb1 : Below w.heap.size w W1 := bel_trans (bel_drewN (bel_alloc (bel_alloc (Below.refl _ _) _) _) _) hbW1
    have hz1 : w.heap.size + 1 < W1.heap.size := by have := hbW1.size; simp at this; omega
    have hz0 : w.heap.size < W1.heap.size := by omega
    have hr1 := hr.below hb1
    clear hfW1 hr
    go_wp2_with fail
    go_loop [9, 63] (fun f i => ∃ j : Nat, j ≤ ns.length ∧ i = .int .i64 j ∧ f = .bool (fits0 3 z n && allB (ns.take j))) (fun _ i => ns.length - (intOf i).toNat)
    case atStart => exact ⟨0, Nat.zero_le _, rfl, by simp [fits0, allB]⟩
    case round =>
      obtain ⟨j, hj, rfl, rfl⟩ := hrel
      by_cases hlt : j < ns.length
      · obtain ⟨b, o, rfl, hB, hc⟩ := hr1.opened (by simp; omega)
        have c0 := hc j (.int .i64 ns[j]) (by simp [hlt])
        obtain ⟨x, hx⟩ : ∃ x, x = ns[j] := ⟨_, rfl⟩
        rw [← hx] at c0
        have hall := allB_succ ns j hlt
        rw [← hx] at hall
        have HA := Lib.hid hall
        clear hall hx hc hr1
        cases hf : (fits0 3 z n && allB (ns.take j))
        · go_wp2_with (first | (go_at_call 58; refine (limit_any _ _ (by omega) (by omega)).mono ?_; rintro e w' ⟨rfl, rfl⟩) | (go_at_call 49; refine (within_any _ _ _ _).mono ?_; rintro e w' ⟨rfl, rfl⟩))
          go_round
          case rel => exact ⟨j + 1, by omega, by go_num, by rw [HA.out, ← Bool.and_assoc, hf]; rfl⟩
          case measure => simp [intOf]; omega
        · go_wp2_with (first | (go_at_call 58; refine (limit_any _ _ (by omega) (by omega)).mono ?_; rintro e w' ⟨rfl, rfl⟩) | (go_at_call 49; refine (within_any _ _ _ _).mono ?_; rintro e w' ⟨rfl, rfl⟩))
          go_round
          case rel => exact ⟨j + 1, by omega, by go_num, by rw [HA.out, ← Bool.and_assoc, hf]; rfl⟩
          case measure => simp [intOf]; omega
      · obtain rfl : j = ns.length := by omega
        rw [List.take_length]
        by_cases h8 : (s.size : Int) ≤ z
        · have hfin : valE 3 z n s ns = firstE [unl form 3, unl (fits0 3 z n && allB ns) 2, unl true 10, unl (decide ((ns.length : Int) ≤ z)) 8] := by rw [HForm.out]; simp [valE, fitsB, opn, h8]
          have HF := Lib.hid hfin
          clear hfin
          obtain ⟨fit, hfit⟩ : ∃ b, b = (fits0 3 z n && allB ns) := ⟨_, rfl⟩
          rw [← hfit]
          have HFit := Lib.hid hfit
          clear hfit
          go_wp2_with fail
          (refine wp_region_btail 36 (by kernel_rfl) (by kernel_rfl) ?_; simp only [List.take_succ_cons, List.take_zero, List.drop_succ_cons, List.drop_zero]; (repeat (go_big_quiet_step ((first | (go_at_call 48; exact Calls.reg_pure (unless_any _ _ _)) | (go_at_call 52; exact Calls.regrown_of (isOpen_any _ _ _)))))); (with_reducible refine wpQuiet_nil ?_); intro W2 hreg; have hbW2 := below_of_reg hreg; clear hreg; obtain ⟨hcW2, hfW2⟩ := bcell hbW2)
          go_wp2_with (go_at_call 46; refine (first_list [_, _, _, _] _ (by simp)).mono ?_; rintro e w' ⟨rfl, rfl⟩)
          go_ret
          exact ⟨retI (by rw [HF.out, HFit.out]), bel_alloc (bel_trans hb1 hbW2) _⟩
        · have hfin : valE 3 z n s ns = firstE [unl form 3, unl (fits0 3 z n && allB ns) 2, unl true 10, unl false 8] := by rw [HForm.out]; simp [valE, fitsB, opn, h8]
          have h8' : decide ((s.size : Int) ≤ z) = false := decide_eq_false h8
          clear h8
          have HF := Lib.hid hfin
          clear hfin
          obtain ⟨fit, hfit⟩ : ∃ b, b = (fits0 3 z n && allB ns) := ⟨_, rfl⟩
          rw [← hfit]
          have HFit := Lib.hid hfit
          clear hfit
          go_wp2_with fail
          (refine wp_region_btail 36 (by kernel_rfl) (by kernel_rfl) ?_; simp only [List.take_succ_cons, List.take_zero, List.drop_succ_cons, List.drop_zero]; (repeat (go_big_quiet_step ((first | (go_at_call 48; exact Calls.reg_pure (unless_any _ _ _)) | (go_at_call 52; exact Calls.regrown_of (isOpen_any _ _ _)))))); (with_reducible refine wpQuiet_nil ?_); intro W2 hreg; have hbW2 := below_of_reg hreg; clear hreg; obtain ⟨hcW2, hfW2⟩ := bcell hbW2)
          go_wp2_with (go_at_call 46; refine (first_list [_, _, _, _] _ (by simp)).mono ?_; rintro e w' ⟨rfl, rfl⟩)
          go_ret
          exact ⟨retI (by rw [HF.out, HFit.out]), bel_alloc (bel_trans hb1 hbW2) _⟩
set_option maxRecDepth 100000 in
set_option maxHeartbeats 4000000 in
theorem valueErr4 (z n : Int) (s : ByteArray) (A : Option Addr) (c : Nat) (ns : List Int) (w : World) (hz : fldE 4 z = 0) (hs : s.size ≤ maxLen) (hn : ns.length ≤ maxLen) (hr : Rd w w.heap.size A (ns.map (.int .i64))) :
    Calls Try.prog 71 #[.agg #[.int .i64 4, .int .i64 z], .agg #[.int .i64 n, .string s, .slice A ns.length c]] w fun e w' => e = .returned (.int .i64 (valE 4 z n s ns)) ∧ Below w.heap.size w w' := by
  obtain ⟨_, _, hz1, hz2⟩ := fldE_zero hz
  have hz1' : 1 ≤ z := hz1
  have hz2' : z ≤ 64 := hz2
  clear hz hz1 hz2
  unfold maxLen at hs hn
  skip
  have hop : opn 4 = false := rfl
  go_enter Try.func71, Try.ntmps71
  go_wp2_with fail
  go_quiet (fail)
  go_upto_region 3 with (fail)
  go_cut [8] (fun s8 wx => s8 = .bool (formB 4 n s ns) ∧ wx = ((w.alloc (Obj.cells #[.int .i64 4, .int .i64 z] 67)).alloc (Obj.cells #[.int .i64 n, .string s, .slice A ns.length c] 69)).drewN nq)
  case first =>
    cases hn0 : (n == 0)
    · go_wp2_with fail
      all_goals (go_meet; exact ⟨congrArg Value.bool (by simp [formB, hn0, *]), rfl⟩)
    · go_wp2_with fail
      all_goals (go_meet; exact ⟨congrArg Value.bool (by simp [formB, hn0, *]), rfl⟩)
  case rest =>
    obtain ⟨rfl, rfl⟩ := hcut
    obtain ⟨form, hform⟩ : ∃ b, b = formB 4 n s ns := ⟨_, rfl⟩
    rw [← hform]
    have HForm := Lib.hid hform
    clear hform
    go_wp2_with fail
    (refine wp_region_quiet_below (by kernel_rfl) (by kernel_rfl) ?_; (repeat (go_big_quiet_step ((first | (go_at_call 58; exact Calls.reg_pure (limit_any _ _ (by omega) (by omega))) | (go_at_call 49; exact Calls.reg_pure (within_any _ _ _ _)))))); (with_reducible refine wpQuiet_nil ?_); intro W1 hreg; have hbW1 := below_of_reg hreg; clear hreg; obtain ⟨hcW1, hfW1⟩ := bcell hbW1)
    have hb1 : Below w.heap.size w W1 := bel_trans (bel_drewN (bel_alloc (bel_alloc (Below.refl _ _) _) _) _) hbW1
    have hz1 : w.heap.size + 1 < W1.heap.size := by have := hbW1.size; simp at this; omega
    have hz0 : w.heap.size < W1.heap.size := by omega
    have hr1 := hr.below hb1
    clear hfW1 hr
    go_wp2_with fail
    go_loop [9, 63] (fun f i => ∃ j : Nat, j ≤ ns.length ∧ i = .int .i64 j ∧ f = .bool (fits0 4 z n && allB (ns.take j))) (fun _ i => ns.length - (intOf i).toNat)
    case atStart => exact ⟨0, Nat.zero_le _, rfl, by simp [fits0, allB]⟩
    case round =>
      obtain ⟨j, hj, rfl, rfl⟩ := hrel
      by_cases hlt : j < ns.length
      · obtain ⟨b, o, rfl, hB, hc⟩ := hr1.opened (by simp; omega)
        have c0 := hc j (.int .i64 ns[j]) (by simp [hlt])
        obtain ⟨x, hx⟩ : ∃ x, x = ns[j] := ⟨_, rfl⟩
        rw [← hx] at c0
        have hall := allB_succ ns j hlt
        rw [← hx] at hall
        have HA := Lib.hid hall
        clear hall hx hc hr1
        cases hf : (fits0 4 z n && allB (ns.take j))
        · go_wp2_with (first | (go_at_call 58; refine (limit_any _ _ (by omega) (by omega)).mono ?_; rintro e w' ⟨rfl, rfl⟩) | (go_at_call 49; refine (within_any _ _ _ _).mono ?_; rintro e w' ⟨rfl, rfl⟩))
          go_round
          case rel => exact ⟨j + 1, by omega, by go_num, by rw [HA.out, ← Bool.and_assoc, hf]; rfl⟩
          case measure => simp [intOf]; omega
        · go_wp2_with (first | (go_at_call 58; refine (limit_any _ _ (by omega) (by omega)).mono ?_; rintro e w' ⟨rfl, rfl⟩) | (go_at_call 49; refine (within_any _ _ _ _).mono ?_; rintro e w' ⟨rfl, rfl⟩))
          go_round
          case rel => exact ⟨j + 1, by omega, by go_num, by rw [HA.out, ← Bool.and_assoc, hf]; rfl⟩
          case measure => simp [intOf]; omega
      · obtain rfl : j = ns.length := by omega
        rw [List.take_length]
        by_cases h8 : (s.size : Int) ≤ z
        · have hfin : valE 4 z n s ns = firstE [unl form 3, unl (fits0 4 z n && allB ns) 2, unl true 10, unl true 8] := by rw [HForm.out]; simp [valE, fitsB, opn, h8]
          have HF := Lib.hid hfin
          clear hfin
          obtain ⟨fit, hfit⟩ : ∃ b, b = (fits0 4 z n && allB ns) := ⟨_, rfl⟩
          rw [← hfit]
          have HFit := Lib.hid hfit
          clear hfit
          go_wp2_with fail
          (refine wp_region_btail 36 (by kernel_rfl) (by kernel_rfl) ?_; simp only [List.take_succ_cons, List.take_zero, List.drop_succ_cons, List.drop_zero]; (repeat (go_big_quiet_step ((first | (go_at_call 48; exact Calls.reg_pure (unless_any _ _ _)) | (go_at_call 52; exact Calls.regrown_of (isOpen_any _ _ _)))))); (with_reducible refine wpQuiet_nil ?_); intro W2 hreg; have hbW2 := below_of_reg hreg; clear hreg; obtain ⟨hcW2, hfW2⟩ := bcell hbW2)
          go_wp2_with (go_at_call 46; refine (first_list [_, _, _, _] _ (by simp)).mono ?_; rintro e w' ⟨rfl, rfl⟩)
          go_ret
          exact ⟨retI (by rw [HF.out, HFit.out]), bel_alloc (bel_trans hb1 hbW2) _⟩
        · have hfin : valE 4 z n s ns = firstE [unl form 3, unl (fits0 4 z n && allB ns) 2, unl true 10, unl true 8] := by rw [HForm.out]; simp [valE, fitsB, opn, h8]
          have h8' : decide ((s.size : Int) ≤ z) = false := decide_eq_false h8
          clear h8
          have HF := Lib.hid hfin
          clear hfin
          obtain ⟨fit, hfit⟩ : ∃ b, b = (fits0 4 z n && allB ns) := ⟨_, rfl⟩
          rw [← hfit]
          have HFit := Lib.hid hfit
          clear hfit
          go_wp2_with fail
          (refine wp_region_btail 36 (by kernel_rfl) (by kernel_rfl) ?_; simp only [List.take_succ_cons, List.take_zero, List.drop_succ_cons, List.drop_zero]; (repeat (go_big_quiet_step ((first | (go_at_call 48; exact Calls.reg_pure (unless_any _ _ _)) | (go_at_call 52; exact Calls.regrown_of (isOpen_any _ _ _)))))); (with_reducible refine wpQuiet_nil ?_); intro W2 hreg; have hbW2 := below_of_reg hreg; clear hreg; obtain ⟨hcW2, hfW2⟩ := bcell hbW2)
          go_wp2_with (go_at_call 46; refine (first_list [_, _, _, _] _ (by simp)).mono ?_; rintro e w' ⟨rfl, rfl⟩)
          go_ret
          exact ⟨retI (by rw [HF.out, HFit.out]), bel_alloc (bel_trans hb1 hbW2) _⟩

theorem valueErr_any (k z n : Int) (s : ByteArray) (A : Option Addr) (c : Nat) (ns : List Int) (w : World) (hz : fldE k z = 0) (hs : s.size ≤ maxLen) (hn : ns.length ≤ maxLen) (hr : Rd w w.heap.size A (ns.map (.int .i64))) :
    Calls Try.prog 71 #[.agg #[.int .i64 k, .int .i64 z], .agg #[.int .i64 n, .string s, .slice A ns.length c]] w fun e w' => e = .returned (.int .i64 (valE k z n s ns)) ∧ Below w.heap.size w w' := by
  obtain ⟨h0, h4, _, _⟩ := fldE_zero hz
  have : k = 0 ∨ k = 1 ∨ k = 2 ∨ k = 3 ∨ k = 4 := by omega
  rcases this with rfl | rfl | rfl | rfl | rfl
  · exact valueErr0 z n s A c ns w hz hs hn hr
  · exact valueErr1 z n s A c ns w hz hs hn hr
  · exact valueErr2 z n s A c ns w hz hs hn hr
  · exact valueErr3 z n s A c ns w hz hs hn hr
  · exact valueErr4 z n s A c ns w hz hs hn hr
end Go.Proofs.Ytiomfkgbaemmkaa
