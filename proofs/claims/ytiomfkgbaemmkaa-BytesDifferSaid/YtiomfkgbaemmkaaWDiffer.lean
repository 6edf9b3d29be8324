/-
  BytesDiffer: the walk.
-/
import Derived.Test.YtiomfkgbaemmkaaAwake
import Derived.Test.YtiomfkgbaemmkaaLawPlain
namespace Go.Proofs.Ytiomfkgbaemmkaa
set_option linter.unusedVariables false
set_option linter.unusedSimpArgs false
open Go.RowKit Go.Sort

theorem wBytesDiffer_large (s : ByteArray) (a : Int) (c : UInt8) (w : World) (h : ¬ s.size ≤ 1000) :
    Calls Try.prog 4 #[.string s, .int .i64 a, .int .u8 c.toNat] w fun e w' => e = .returned (.bool true) ∧ Below w.heap.size w w' := by
  have h1 : decide ((s.size : Int) > 1000) = true := by simp; omega
  go_enter Try.func4, Try.ntmps4
  go_wp2_with (go_at_call 10; refine (awake_any _).mono ?_; rintro e W1 ⟨rfl, hbW1⟩; obtain ⟨hcW1, hfW1⟩ := bcell hbW1)
  go_ret
  exact ⟨rfl, by (repeat (first | assumption | exact Below.refl _ _ | refine bel_drewN ?_ _ | refine bel_alloc ?_ _ | refine bel_trans ?_ (by assumption) | refine Below.trans ?_ (by assumption)))⟩
theorem wBytesDiffer_out (s : ByteArray) (a : Int) (c : UInt8) (w : World) (h : s.size ≤ 1000) (hi : inB a 0 (s.size - 1) = false) :
    Calls Try.prog 4 #[.string s, .int .i64 a, .int .u8 c.toNat] w fun e w' => e = .returned (.bool true) ∧ Below w.heap.size w w' := by
  have h1 : decide ((s.size : Int) > 1000) = false := by simp; omega
  go_enter Try.func4, Try.ntmps4
  go_wp2_with (first | (go_at_call 10; refine (awake_any _).mono ?_; rintro e W1 ⟨rfl, hbW1⟩; obtain ⟨hcW1, hfW1⟩ := bcell hbW1) | (go_at_call 15; refine (Within_any _ _ _ _).mono ?_; rintro e w' ⟨rfl, rfl⟩))
  go_ret
  exact ⟨rfl, by (repeat (first | assumption | exact Below.refl _ _ | refine bel_drewN ?_ _ | refine bel_alloc ?_ _ | refine bel_trans ?_ (by assumption) | refine Below.trans ?_ (by assumption)))⟩
theorem wBytesDiffer_same (s : ByteArray) (k : Nat) (c : UInt8) (w : World) (h : s.size ≤ 1000) (hk : k < s.size) (hc : s[k] = c) :
    Calls Try.prog 4 #[.string s, .int .i64 k, .int .u8 c.toNat] w fun e w' => e = .returned (.bool true) ∧ Below w.heap.size w w' := by
  have h1 : decide ((s.size : Int) > 1000) = false := by simp; omega
  have hi : inB k 0 ((s.size : Int) - 1) = true := inB_true.2 ⟨by omega, by omega⟩
  subst hc
  go_enter Try.func4, Try.ntmps4
  go_wp2_with (first | (go_at_call 10; refine (awake_any _).mono ?_; rintro e W1 ⟨rfl, hbW1⟩; obtain ⟨hcW1, hfW1⟩ := bcell hbW1) | (go_at_call 15; refine (Within_any _ _ _ _).mono ?_; rintro e w' ⟨rfl, rfl⟩))
  go_ret
  exact ⟨rfl, by (repeat (first | assumption | exact Below.refl _ _ | refine bel_drewN ?_ _ | refine bel_alloc ?_ _ | refine bel_trans ?_ (by assumption) | refine Below.trans ?_ (by assumption)))⟩
set_option maxRecDepth 100000 in
set_option maxHeartbeats 1000000 in
theorem wBytesDiffer_main (s : ByteArray) (k : Nat) (c : UInt8) (w : World) (h : s.size ≤ 1000) (hk : k < s.size) (hc : s[k] ≠ c) :
    Calls Try.prog 4 #[.string s, .int .i64 k, .int .u8 c.toNat] w fun e w' => e = .returned (.bool true) ∧ Below w.heap.size w w' := by
  have hs : s.size ≤ maxLen := by unfold maxLen; omega
  have h1 : decide ((s.size : Int) > 1000) = false := by simp; omega
  have hi : inB k 0 ((s.size : Int) - 1) = true := inB_true.2 ⟨by omega, by omega⟩
  have hc' : ((s[k].toNat : Int) == (c.toNat : Int)) = false := by
    rw [beq_eq_false_iff_ne]
    intro e
    exact hc (UInt8.toNat_inj.1 (by omega))
  have hc1 : ¬ (s[k].toNat = c.toNat) := fun e => hc (UInt8.toNat_inj.1 e)
  obtain ⟨t, ht⟩ : ∃ t, t = patS s k (bs [c]) := ⟨_, rfl⟩
  have htz : t.size = s.size := by rw [ht]; exact pat1_size s k c hk
  have hone : (bs [c]).size = 1 := rfl
  have hone2 : (bs [s[k]]).size = 1 := rfl
  have hP : ∀ W, Calls Try.prog 16 #[.string s, .int .i64 k, .string (bs [c])] W fun e w' => e = .returned (.tuple #[.string t, .int .i64 0]) ∧ Below W.heap.size W w' := fun W => by
    have hp := patE_ok s (bs [c]) k (by omega) (by omega)
    have := Patched_any s (bs [c]) k W hs (by unfold maxLen; omega)
    rw [hp] at this
    unfold patR at this
    rw [if_pos hp] at this
    rw [ht]
    exact this
  have hQ : ∀ W, Calls Try.prog 16 #[.string t, .int .i64 k, .string (s.extract k (k + 1))] W fun e w' => e = .returned (.tuple #[.string s, .int .i64 0]) ∧ Below W.heap.size W w' := fun W => by
    rw [ext1 s k hk]
    have hp := patE_ok t (bs [s[k]]) k (by omega) (by omega)
    have := Patched_any t (bs [s[k]]) k W (by omega) (by unfold maxLen; omega)
    rw [hp] at this
    unfold patR at this
    rw [if_pos hp] at this
    have e : patS t k (bs [s[k]]) = s := by rw [ht]; exact pat1_back s k c hk
    rw [show ((k : Int)).toNat = k from rfl, e] at this
    exact this
  have hS := fun W => SumOf_any s W hs (by omega)
  have hT := fun W => SumOf_any t W (by omega) (by omega)
  have hd : (sumL (bl s) 0 != sumL (bl t) 0) = true := by rw [ht]; simpa using pat1_sum s k c hk hc
  obtain ⟨p, hp⟩ : ∃ p, p = sumL (bl s) 0 := ⟨_, rfl⟩
  obtain ⟨q, hq⟩ : ∃ q, q = sumL (bl t) 0 := ⟨_, rfl⟩
  rw [← hp] at hS hd
  rw [← hq] at hT hd
  clear hp hq ht hone hone2 hc
  go_enter Try.func4, Try.ntmps4
  go_upto_region 5 with (first | (go_at_call 10; refine (awake_any _).mono ?_; rintro e W1 ⟨rfl, hbW1⟩; obtain ⟨hcW1, hfW1⟩ := bcell hbW1) | (go_at_call 15; refine (Within_any _ _ _ _).mono ?_; rintro e w' ⟨rfl, rfl⟩))
  have hconv := conv_row (W1.alloc (.cells #[.int .u8 c.toNat] 5)) W1.heap.size 1 1 [c] rfl (fun j hj => by
    have : j = 0 := by have : j < 1 := hj; omega
    subst this
    rw [cell_of_row _ _ _ _ _ _ (heap_alloc_new W1 (.cells #[.int .u8 c.toNat] 5))]
    rfl)
  go_wp2_with (first | (go_at_call 16; with_reducible (refine (hP _).mono ?_); rintro e W2 ⟨rfl, hbW2⟩; obtain ⟨hcW2, hfW2⟩ := bcell hbW2) | (go_at_call 11; with_reducible (refine (hS _).mono ?_); rintro e W3 ⟨rfl, hbW3⟩; obtain ⟨hcW3, hfW3⟩ := bcell hbW3) | (go_at_call 11; with_reducible (refine (hT _).mono ?_); rintro e W4 ⟨rfl, hbW4⟩; obtain ⟨hcW4, hfW4⟩ := bcell hbW4) | (go_at_call 16; with_reducible (refine (hQ _).mono ?_); rintro e W5 ⟨rfl, hbW5⟩; obtain ⟨hcW5, hfW5⟩ := bcell hbW5))
  go_ret
  exact ⟨retB (by simp [hd]), by (repeat (first | assumption | exact Below.refl _ _ | refine bel_drewN ?_ _ | refine bel_alloc ?_ _ | refine bel_trans ?_ (by assumption) | refine Below.trans ?_ (by assumption)))⟩
theorem wBytesDiffer (s : ByteArray) (a : Int) (c : UInt8) (w : World) :
    Calls Try.prog 4 #[.string s, .int .i64 a, .int .u8 c.toNat] w fun e w' => e = .returned (.bool true) ∧ Below w.heap.size w w' := by
  by_cases h : s.size ≤ 1000
  · cases hi : inB a 0 (s.size - 1)
    · exact wBytesDiffer_out s a c w h hi
    · have hj := inB_true.1 hi
      obtain ⟨k, rfl⟩ := Int.eq_ofNat_of_zero_le hj.1
      have hk : k < s.size := by omega
      by_cases hc : s[k] = c
      · exact wBytesDiffer_same s k c w h hk hc
      · exact wBytesDiffer_main s k c w h hk hc
  · exact wBytesDiffer_large s a c w h
end Go.Proofs.Ytiomfkgbaemmkaa
