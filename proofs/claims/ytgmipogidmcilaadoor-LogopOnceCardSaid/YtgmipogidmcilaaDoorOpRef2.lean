/-
  Chapter 21: the reference's Applied, Fits, Try.
-/
import Derived.Test.YtgmipogidmcilaaDoorOpDo
import Derived.Test.YtgmipogidmcilaaDoorOpErr3
namespace Go.Proofs.YtgmipogidmcilaaDoor
set_option linter.unusedVariables false
set_option linter.unusedSimpArgs false
open Go.RowKit Go.Sort

set_option maxRecDepth 100000 in
set_option maxHeartbeats 1000000 in
theorem refApplied_1 (p : ByteArray) (A : Nat) (o n : ByteArray) (w : World) (hp : p.size = 512) (h1 : o.size = n.size) (h2 : o.size ≤ 200) (h3 : A + o.size ≤ 512) :
    Calls Tryd.prog 56 #[.string p, .agg #[.int .i64 1, .int .i64 A, .int .i64 0, .int .i64 0, .string o, .string n]] w fun r w' => r = .returned (.string (opDo p ⟨1, A, 0, 0, o, n⟩)) ∧ Below w.heap.size w w' := by
  have hp1 : p.size ≤ 1000000 := by omega
  have hp3 : A + n.size ≤ p.size := by omega
  clear hp h1
  go_enter Tryd.func56, Tryd.ntmps56
  go_wp2_with (first | (go_at_call 51; refine (Patch_any p n A _ hp1 hp3).mono ?_; rintro e W1 ⟨rfl, hbW1⟩; obtain ⟨hcW1, hfW1⟩ := bcell hbW1))
  go_ret
  exact ⟨rfl, by (repeat (first | assumption | exact Below.refl _ _ | refine bel_drewN ?_ _ | refine bel_alloc ?_ _ | refine bel_trans ?_ (by assumption) | refine Below.trans ?_ (by assumption)))⟩

set_option maxRecDepth 100000 in
set_option maxHeartbeats 1000000 in
theorem refApplied_2 (p : ByteArray) (A E : Nat) (o n : ByteArray) (w : World) (hp : p.size = 512) (h1 : o.size = 0) (h2 : n.size ≤ 200) (h3 : A ≤ E) (h4 : E + n.size ≤ 512) :
    Calls Tryd.prog 56 #[.string p, .agg #[.int .i64 2, .int .i64 A, .int .i64 E, .int .i64 0, .string o, .string n]] w fun r w' => r = .returned (.string (opDo p ⟨2, A, E, 0, o, n⟩)) ∧ Below w.heap.size w w' := by
  have hp1 : p.size ≤ 3100 := by omega
  have hp2 : (A : Int) ≤ p.size := by omega
  have hp3 : E + n.size ≤ p.size := by omega
  have hz1 : (p.extract 0 A ++ n).size = A + n.size := by rw [ByteArray.size_append, ByteArray.size_extract]; omega
  have hz2 : (p.extract 0 A ++ n ++ p.extract A E).size = E + n.size := by rw [ByteArray.size_append, hz1, ByteArray.size_extract]; omega
  clear hp h1
  go_enter Tryd.func56, Tryd.ntmps56
  go_wp2
  (refine wp_region_quiet_below (by kernel_rfl) (by kernel_rfl) ?_; (repeat (go_big_quiet_step ((first | fail)))); (with_reducible refine wpQuiet_nil ?_); intro W2 hreg; have hbW2 := below_of_reg hreg; clear hreg; obtain ⟨hcW2, hfW2⟩ := bcell hbW2)
  go_wp2
  go_ret
  exact ⟨retS (ins_bl p n A E), by (repeat (first | assumption | exact Below.refl _ _ | refine bel_drewN ?_ _ | refine bel_alloc ?_ _ | refine bel_trans ?_ (by assumption) | refine Below.trans ?_ (by assumption)))⟩

set_option maxRecDepth 100000 in
set_option maxHeartbeats 1000000 in
theorem refApplied_3 (p : ByteArray) (A E : Nat) (o n : ByteArray) (w : World) (hp : p.size = 512) (h1 : n.size = 0) (h2 : o.size ≤ 200) (h3 : A + o.size ≤ E) (h4 : E ≤ 512) :
    Calls Tryd.prog 56 #[.string p, .agg #[.int .i64 3, .int .i64 A, .int .i64 E, .int .i64 0, .string o, .string n]] w fun r w' => r = .returned (.string (opDo p ⟨3, A, E, 0, o, n⟩)) ∧ Below w.heap.size w w' := by
  have hp1 : p.size ≤ 3100 := by omega
  have hp2 : (A : Int) ≤ p.size := by omega
  have hp3 : E ≤ p.size := by omega
  have hz1 : (p.extract 0 A ++ p.extract (A + o.size) E).size = E - o.size := by rw [ByteArray.size_append, ByteArray.size_extract, ByteArray.size_extract]; omega
  have hz3 : (bs (zerosL o.size)).size = o.size := zerosL_size _
  have hz2 : (p.extract 0 A ++ p.extract (A + o.size) E ++ bs (zerosL o.size)).size = E := by rw [ByteArray.size_append, hz1, hz3]; omega
  clear hp h1
  go_enter Tryd.func56, Tryd.ntmps56
  go_wp2
  (refine wp_region_quiet_below (by kernel_rfl) (by kernel_rfl) ?_; (repeat (go_big_quiet_step ((first | (go_at_call 78; exact Calls.regrown_of (Zeros_any o.size _ (by omega))))))); (with_reducible refine wpQuiet_nil ?_); intro W2 hreg; have hbW2 := below_of_reg hreg; clear hreg; obtain ⟨hcW2, hfW2⟩ := bcell hbW2)
  go_wp2
  go_ret
  exact ⟨retS (rem_bl p A E o.size), by (repeat (first | assumption | exact Below.refl _ _ | refine bel_drewN ?_ _ | refine bel_alloc ?_ _ | refine bel_trans ?_ (by assumption) | refine Below.trans ?_ (by assumption)))⟩

set_option maxRecDepth 100000 in
set_option maxHeartbeats 1000000 in
theorem refApplied_4 (p : ByteArray) (A C : Nat) (o n : ByteArray) (w : World) (hp : p.size = 512) (h1 : o.size = 0) (h2 : n.size = 0) (h3 : A + C ≤ 4096) :
    Calls Tryd.prog 56 #[.string p, .agg #[.int .i64 4, .int .i64 A, .int .i64 0, .int .i64 C, .string o, .string n]] w fun r w' => r = .returned (.string (opDo p ⟨4, A, 0, C, o, n⟩)) ∧ Below w.heap.size w w' := by
  have hp1 : p.size ≤ 3100 := by omega
  have hp2 : A + C ≤ 8 * p.size := by omega
  clear hp h1 h2
  go_enter Tryd.func56, Tryd.ntmps56
  go_wp2
  (refine wp_region_quiet_below (by kernel_rfl) (by kernel_rfl) ?_; (repeat (go_big_quiet_step ((first | (go_at_call 67; exact Calls.reg_pure (Bit_any _ _)) | (go_at_call 84; exact Calls.regrown_of (WithBits_true p A C _ hp1 hp2)))))); (with_reducible refine wpQuiet_nil ?_); intro W2 hreg; have hbW2 := below_of_reg hreg; clear hreg; obtain ⟨hcW2, hfW2⟩ := bcell hbW2)
  go_wp2
  go_ret
  exact ⟨rfl, by (repeat (first | assumption | exact Below.refl _ _ | refine bel_drewN ?_ _ | refine bel_alloc ?_ _ | refine bel_trans ?_ (by assumption) | refine Below.trans ?_ (by assumption)))⟩
set_option maxRecDepth 100000 in
set_option maxHeartbeats 1000000 in
theorem refApplied_5 (p : ByteArray) (A C : Nat) (o n : ByteArray) (w : World) (hp : p.size = 512) (h1 : o.size = 0) (h2 : n.size = 0) (h3 : A + C ≤ 4096) :
    Calls Tryd.prog 56 #[.string p, .agg #[.int .i64 5, .int .i64 A, .int .i64 0, .int .i64 C, .string o, .string n]] w fun r w' => r = .returned (.string (opDo p ⟨5, A, 0, C, o, n⟩)) ∧ Below w.heap.size w w' := by
  have hp1 : p.size ≤ 3100 := by omega
  have hp2 : A + C ≤ 8 * p.size := by omega
  clear hp h1 h2
  go_enter Tryd.func56, Tryd.ntmps56
  go_wp2
  (refine wp_region_quiet_below (by kernel_rfl) (by kernel_rfl) ?_; (repeat (go_big_quiet_step ((first | (go_at_call 67; exact Calls.reg_pure (Bit_any _ _)) | (go_at_call 84; exact Calls.regrown_of (WithBits_false p A C _ hp1 hp2)))))); (with_reducible refine wpQuiet_nil ?_); intro W2 hreg; have hbW2 := below_of_reg hreg; clear hreg; obtain ⟨hcW2, hfW2⟩ := bcell hbW2)
  go_wp2
  go_ret
  exact ⟨rfl, by (repeat (first | assumption | exact Below.refl _ _ | refine bel_drewN ?_ _ | refine bel_alloc ?_ _ | refine bel_trans ?_ (by assumption) | refine Below.trans ?_ (by assumption)))⟩

set_option maxRecDepth 100000 in
set_option maxHeartbeats 1000000 in
theorem refApplied_0 (p : ByteArray) (o n : ByteArray) (w : World) :
    Calls Tryd.prog 56 #[.string p, .agg #[.int .i64 0, .int .i64 0, .int .i64 0, .int .i64 0, .string o, .string n]] w fun r w' => r = .returned (.string (opDo p ⟨0, 0, 0, 0, o, n⟩)) ∧ Below w.heap.size w w' := by
  go_enter Tryd.func56, Tryd.ntmps56
  go_wp2
  go_ret
  exact ⟨rfl, by (repeat (first | assumption | exact Below.refl _ _ | refine bel_drewN ?_ _ | refine bel_alloc ?_ _ | refine bel_trans ?_ (by assumption) | refine Below.trans ?_ (by assumption)))⟩
set_option maxRecDepth 100000 in
set_option maxHeartbeats 1000000 in
theorem refApplied_6 (p : ByteArray) (o n : ByteArray) (w : World) :
    Calls Tryd.prog 56 #[.string p, .agg #[.int .i64 6, .int .i64 0, .int .i64 0, .int .i64 0, .string o, .string n]] w fun r w' => r = .returned (.string (opDo p ⟨6, 0, 0, 0, o, n⟩)) ∧ Below w.heap.size w w' := by
  go_enter Tryd.func56, Tryd.ntmps56
  go_wp2
  go_ret
  exact ⟨rfl, by (repeat (first | assumption | exact Below.refl _ _ | refine bel_drewN ?_ _ | refine bel_alloc ?_ _ | refine bel_trans ?_ (by assumption) | refine Below.trans ?_ (by assumption)))⟩

set_option maxRecDepth 100000 in
set_option maxHeartbeats 1000000 in
theorem Fits_1 (p : ByteArray) (A : Nat) (o n : ByteArray) (w : World) (hp : p.size = 512) (h1 : o.size = n.size) (h2 : o.size ≤ 200) (h3 : A + o.size ≤ 512) :
    Calls Tryd.prog 30 #[.string p, .agg #[.int .i64 1, .int .i64 A, .int .i64 0, .int .i64 0, .string o, .string n]] w fun r w' => r = .returned (.bool (opFit p ⟨1, A, 0, 0, o, n⟩)) ∧ Below w.heap.size w w' := by
  have hp1 : p.size ≤ 3100 := by omega
  have hp3 : (A : Int) + o.size ≤ p.size := by omega
  clear hp h1
  go_enter Tryd.func30, Tryd.ntmps30
  go_wp2
  (refine wp_region_quiet_below (by kernel_rfl) (by kernel_rfl) ?_; (repeat (go_big_quiet_step ((first | fail)))); (with_reducible refine wpQuiet_nil ?_); intro W2 hreg; have hbW2 := below_of_reg hreg; clear hreg; obtain ⟨hcW2, hfW2⟩ := bcell hbW2)
  go_wp2
  go_ret
  exact ⟨retB (by rw [strEq, bl_ext, ← drop_take_sub]; rfl), by (repeat (first | assumption | exact Below.refl _ _ | refine bel_drewN ?_ _ | refine bel_alloc ?_ _ | refine bel_trans ?_ (by assumption) | refine Below.trans ?_ (by assumption)))⟩

set_option maxRecDepth 100000 in
set_option maxHeartbeats 1000000 in
theorem Fits_3 (p : ByteArray) (A E : Nat) (o n : ByteArray) (w : World) (hp : p.size = 512) (h1 : n.size = 0) (h2 : o.size ≤ 200) (h3 : A + o.size ≤ E) (h4 : E ≤ 512) :
    Calls Tryd.prog 30 #[.string p, .agg #[.int .i64 3, .int .i64 A, .int .i64 E, .int .i64 0, .string o, .string n]] w fun r w' => r = .returned (.bool (opFit p ⟨3, A, E, 0, o, n⟩)) ∧ Below w.heap.size w w' := by
  have hp1 : p.size ≤ 3100 := by omega
  have hp3 : (A : Int) + o.size ≤ p.size := by omega
  clear hp h1
  go_enter Tryd.func30, Tryd.ntmps30
  go_wp2
  (refine wp_region_quiet_below (by kernel_rfl) (by kernel_rfl) ?_; (repeat (go_big_quiet_step ((first | fail)))); (with_reducible refine wpQuiet_nil ?_); intro W2 hreg; have hbW2 := below_of_reg hreg; clear hreg; obtain ⟨hcW2, hfW2⟩ := bcell hbW2)
  go_wp2
  go_ret
  exact ⟨retB (by rw [strEq, bl_ext, ← drop_take_sub]; rfl), by (repeat (first | assumption | exact Below.refl _ _ | refine bel_drewN ?_ _ | refine bel_alloc ?_ _ | refine bel_trans ?_ (by assumption) | refine Below.trans ?_ (by assumption)))⟩

set_option maxRecDepth 100000 in
set_option maxHeartbeats 1000000 in
theorem Fits_2 (p : ByteArray) (A E : Nat) (o n : ByteArray) (w : World) (hp : p.size = 512) (h1 : o.size = 0) (h2 : n.size ≤ 200) (h3 : A ≤ E) (h4 : E + n.size ≤ 512) :
    Calls Tryd.prog 30 #[.string p, .agg #[.int .i64 2, .int .i64 A, .int .i64 E, .int .i64 0, .string o, .string n]] w fun r w' => r = .returned (.bool (opFit p ⟨2, A, E, 0, o, n⟩)) ∧ Below w.heap.size w w' := by
  have hp1 : p.size ≤ 3100 := by omega
  have hp3 : (E : Int) + n.size ≤ p.size := by omega
  clear hp h1
  go_enter Tryd.func30, Tryd.ntmps30
  go_wp2_with (first | (go_at_call 65; refine (IsZeros_any _ _ (by rw [ByteArray.size_extract]; unfold maxLen; omega)).mono ?_; rintro e w' ⟨rfl, rfl⟩))
  go_ret
  exact ⟨retB (by rw [bl_ext, ← drop_take_sub]; rfl), by (repeat (first | assumption | exact Below.refl _ _ | refine bel_drewN ?_ _ | refine bel_alloc ?_ _ | refine bel_trans ?_ (by assumption) | refine Below.trans ?_ (by assumption)))⟩

set_option maxRecDepth 100000 in
set_option maxHeartbeats 1000000 in
theorem Fits_6 (p : ByteArray) (o n : ByteArray) (w : World) :
    Calls Tryd.prog 30 #[.string p, .agg #[.int .i64 6, .int .i64 0, .int .i64 0, .int .i64 0, .string o, .string n]] w fun r w' => r = .returned (.bool (opFit p ⟨6, 0, 0, 0, o, n⟩)) ∧ Below w.heap.size w w' := by
  go_enter Tryd.func30, Tryd.ntmps30
  go_wp2
  go_ret
  exact ⟨retB (by rw [strEq]; rfl), by (repeat (first | assumption | exact Below.refl _ _ | refine bel_drewN ?_ _ | refine bel_alloc ?_ _ | refine bel_trans ?_ (by assumption) | refine Below.trans ?_ (by assumption)))⟩

set_option maxRecDepth 100000 in
set_option maxHeartbeats 1000000 in
theorem Fits_0 (p : ByteArray) (o n : ByteArray) (w : World) :
    Calls Tryd.prog 30 #[.string p, .agg #[.int .i64 0, .int .i64 0, .int .i64 0, .int .i64 0, .string o, .string n]] w fun r w' => r = .returned (.bool (opFit p ⟨0, 0, 0, 0, o, n⟩)) ∧ Below w.heap.size w w' := by
  go_enter Tryd.func30, Tryd.ntmps30
  go_wp2
  go_ret
  exact ⟨rfl, by (repeat (first | assumption | exact Below.refl _ _ | refine bel_drewN ?_ _ | refine bel_alloc ?_ _ | refine bel_trans ?_ (by assumption) | refine Below.trans ?_ (by assumption)))⟩

theorem bitsAll_false {l : List UInt8} {a k c : Nat} {v : Bool} (hk : k < c) (h : bitAt l (a + k) = v) : bitsAll l a c v = false := by
  cases hb : bitsAll l a c v
  · rfl
  · have := (bitsAll_true l a c v).1 hb (a + k) (by omega) (by omega)
    rw [h] at this; cases v <;> cases this
set_option maxRecDepth 100000 in
set_option maxHeartbeats 1000000 in
theorem Fits_4 (p : ByteArray) (A C : Nat) (o n : ByteArray) (w : World) (hp : p.size = 512) (h1 : o.size = 0) (h2 : n.size = 0) (h3 : A + C ≤ 4096) :
    Calls Tryd.prog 30 #[.string p, .agg #[.int .i64 4, .int .i64 A, .int .i64 0, .int .i64 C, .string o, .string n]] w fun r w' => r = .returned (.bool (opFit p ⟨4, A, 0, C, o, n⟩)) ∧ Below w.heap.size w w' := by
  have hfit : opFit p ⟨4, A, 0, C, o, n⟩ = bitsAll (bl p) A C true := rfl
  rw [hfit]
  clear hfit
  have hp1 : p.size ≤ 3100 := by omega
  have hp2 : A + C ≤ 8 * p.size := by omega
  clear hp h1 h2
  go_enter Tryd.func30, Tryd.ntmps30
  go_wp2
  go_loopw [5] (fun i wr => ∃ k : Nat, k ≤ C ∧ i = .int .i64 ((A + k : Nat) : Int) ∧ Below (w.alloc (.cells #[.int .i64 4, .int .i64 A, .int .i64 0, .int .i64 C, .string o, .string n] 27)).heap.size (w.alloc (.cells #[.int .i64 4, .int .i64 A, .int .i64 0, .int .i64 C, .string o, .string n] 27)) wr ∧ bitsAll (bl p) A k true = true) (fun i _ => A + C - (intOf i).toNat)
  case atStart => exact ⟨0, Nat.zero_le _, rfl, Below.refl _ _, rfl⟩
  case round =>
    obtain ⟨k, hk, rfl, hb, hall⟩ := hrel
    have HALL := Lib.hid hall
    obtain ⟨hcR, hfR⟩ := bcell hb
    have hsR : w.heap.size < wr.heap.size := by have h := hb.size; simp at h; omega
    clear hall
    obtain ⟨m, hm⟩ : ∃ m : Nat, m = A + k := ⟨_, rfl⟩
    rw [← hm]
    have HM := Lib.hid hm
    by_cases hlt : k < C
    · have hltm : (m : Int) < (A : Int) + (C : Int) := by omega
      have hBA := fun W => BitAt_any p m W (by omega) hp1
      obtain ⟨x, hx⟩ : ∃ x, x = bitAt (bl p) m := ⟨_, rfl⟩
      rw [← hx] at hBA
      have HBA := Lib.hid hBA
      have HX := Lib.hid hx
      have hm0 : m < 30000 := by omega
      clear hBA hx hm
      cases x
      all_goals
        simp only [if_true, Bool.false_eq_true, if_false] at HBA
        go_wp2
        refine wp_region_quiet_below (by kernel_rfl) (by kernel_rfl) ?_
        (repeat (go_big_quiet_step ((first | (go_at_call 66; exact Calls.regrown_of (HBA.out _)) | (go_at_call 67; exact Calls.reg_pure (Bit_any _ _))))))
        (with_reducible refine wpQuiet_nil ?_)
        intro W2 hreg
        have hbW2 := below_of_reg hreg
        clear hreg
        obtain ⟨hcW2, hfW2⟩ := bcell hbW2
        go_wp2
        first
        | (go_ret
           exact ⟨retB (bitsAll_false hlt (by rw [← HM.out, ← HX.out])).symm, by (repeat (first | assumption | exact Below.refl _ _ | refine bel_drewN ?_ _ | refine bel_alloc ?_ _ | refine bel_trans ?_ (by assumption) | refine Below.trans ?_ (by assumption)))⟩)
        | (go_roundw
           case rel => exact ⟨k + 1, by omega, by rw [HM.out]; go_num, bel_trans hb hbW2, by unfold bitsAll; rw [HALL.out, ← HM.out, ← HX.out]; rfl⟩
           case measure => simp [intOf]; omega)
    · obtain rfl : k = C := by omega
      have hgem : (A : Int) + (k : Int) ≤ (m : Int) := by omega
      clear hm
      go_wp2
      go_ret
      exact ⟨retB HALL.out.symm, by (repeat (first | assumption | exact Below.refl _ _ | refine bel_drewN ?_ _ | refine bel_alloc ?_ _ | refine bel_trans ?_ (by assumption) | refine Below.trans ?_ (by assumption)))⟩
set_option maxRecDepth 100000 in
set_option maxHeartbeats 1000000 in
theorem Fits_5 (p : ByteArray) (A C : Nat) (o n : ByteArray) (w : World) (hp : p.size = 512) (h1 : o.size = 0) (h2 : n.size = 0) (h3 : A + C ≤ 4096) :
    Calls Tryd.prog 30 #[.string p, .agg #[.int .i64 5, .int .i64 A, .int .i64 0, .int .i64 C, .string o, .string n]] w fun r w' => r = .returned (.bool (opFit p ⟨5, A, 0, C, o, n⟩)) ∧ Below w.heap.size w w' := by
  have hfit : opFit p ⟨5, A, 0, C, o, n⟩ = bitsAll (bl p) A C false := rfl
  rw [hfit]
  clear hfit
  have hp1 : p.size ≤ 3100 := by omega
  have hp2 : A + C ≤ 8 * p.size := by omega
  clear hp h1 h2
  go_enter Tryd.func30, Tryd.ntmps30
  go_wp2
  go_loopw [5] (fun i wr => ∃ k : Nat, k ≤ C ∧ i = .int .i64 ((A + k : Nat) : Int) ∧ Below (w.alloc (.cells #[.int .i64 5, .int .i64 A, .int .i64 0, .int .i64 C, .string o, .string n] 27)).heap.size (w.alloc (.cells #[.int .i64 5, .int .i64 A, .int .i64 0, .int .i64 C, .string o, .string n] 27)) wr ∧ bitsAll (bl p) A k false = true) (fun i _ => A + C - (intOf i).toNat)
  case atStart => exact ⟨0, Nat.zero_le _, rfl, Below.refl _ _, rfl⟩
  case round =>
    obtain ⟨k, hk, rfl, hb, hall⟩ := hrel
    have HALL := Lib.hid hall
    obtain ⟨hcR, hfR⟩ := bcell hb
    have hsR : w.heap.size < wr.heap.size := by have h := hb.size; simp at h; omega
    clear hall
    obtain ⟨m, hm⟩ : ∃ m : Nat, m = A + k := ⟨_, rfl⟩
    rw [← hm]
    have HM := Lib.hid hm
    by_cases hlt : k < C
    · have hltm : (m : Int) < (A : Int) + (C : Int) := by omega
      have hBA := fun W => BitAt_any p m W (by omega) hp1
      obtain ⟨x, hx⟩ : ∃ x, x = bitAt (bl p) m := ⟨_, rfl⟩
      rw [← hx] at hBA
      have HBA := Lib.hid hBA
      have HX := Lib.hid hx
      have hm0 : m < 30000 := by omega
      clear hBA hx hm
      cases x
      all_goals
        simp only [if_true, Bool.false_eq_true, if_false] at HBA
        go_wp2
        refine wp_region_quiet_below (by kernel_rfl) (by kernel_rfl) ?_
        (repeat (go_big_quiet_step ((first | (go_at_call 66; exact Calls.regrown_of (HBA.out _)) | (go_at_call 67; exact Calls.reg_pure (Bit_any _ _))))))
        (with_reducible refine wpQuiet_nil ?_)
        intro W2 hreg
        have hbW2 := below_of_reg hreg
        clear hreg
        obtain ⟨hcW2, hfW2⟩ := bcell hbW2
        go_wp2
        first
        | (go_ret
           exact ⟨retB (bitsAll_false hlt (by rw [← HM.out, ← HX.out])).symm, by (repeat (first | assumption | exact Below.refl _ _ | refine bel_drewN ?_ _ | refine bel_alloc ?_ _ | refine bel_trans ?_ (by assumption) | refine Below.trans ?_ (by assumption)))⟩)
        | (go_roundw
           case rel => exact ⟨k + 1, by omega, by rw [HM.out]; go_num, bel_trans hb hbW2, by unfold bitsAll; rw [HALL.out, ← HM.out, ← HX.out]; rfl⟩
           case measure => simp [intOf]; omega)
    · obtain rfl : k = C := by omega
      have hgem : (A : Int) + (k : Int) ≤ (m : Int) := by omega
      clear hm
      go_wp2
      go_ret
      exact ⟨retB HALL.out.symm, by (repeat (first | assumption | exact Below.refl _ _ | refine bel_drewN ?_ _ | refine bel_alloc ?_ _ | refine bel_trans ?_ (by assumption) | refine Below.trans ?_ (by assumption)))⟩
end Go.Proofs.YtgmipogidmcilaaDoor
