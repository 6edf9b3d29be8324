/-
  Chapter 21: pages: their errors, numbers of bytes, patches, bits.
-/
import Derived.Test.YtgmipogidmcilaaDoorStrs
import Derived.Test.YtgmipogidmcilaaDoorBox
import Derived.Test.YtgmipogidmcilaaDoorOp3
import Derived.Test.YtgmipogidmcilaaDoorPlain2
namespace Go.Proofs.YtgmipogidmcilaaDoor
set_option linter.unusedVariables false
set_option linter.unusedSimpArgs false
open Go.RowKit Go.Sort

theorem pageErr_any (s : ByteArray) (w : World) (hs : s.size ≤ maxLen) :
    Calls Tryd.prog 53 #[.string s] w fun e w' => e = .returned (.int .i64 (pageE s)) ∧ w = w' := by
  unfold maxLen at hs
  go_enter Tryd.func53, Tryd.ntmps53
  go_wp2_with (go_at_call 54; refine (logop_unless_any _ _ _).mono ?_; rintro e w' ⟨rfl, rfl⟩)
  go_ret
  exact ⟨retI (by unfold pageE; rw [show (512 : Int) = ((512 : Nat) : Int) from rfl, intBeq]), rfl⟩

def lsnE (n : Int) : Int := unl (inB n 1 2147483647) 2
theorem numberErr_any (n : Int) (w : World) :
    Calls Tryd.prog 73 #[.int .i64 n] w fun e w' => e = .returned (.int .i64 (lsnE n)) ∧ w = w' := by
  go_enter Tryd.func73, Tryd.ntmps73
  go_wp2_with (first | (go_at_call 54; refine (logop_unless_any _ _ _).mono ?_; rintro e w' ⟨rfl, rfl⟩) | (go_at_call 57; refine (logop_within_any _ _ _ _).mono ?_; rintro e w' ⟨rfl, rfl⟩))
  go_ret
  exact ⟨rfl, rfl⟩

theorem PageErr_any (s : ByteArray) (w : World) (hs : s.size ≤ maxLen) :
    Calls Tryd.prog 19 #[.string s] w fun e w' => e = .returned (.int .i64 (pageE s)) ∧ w = w' := by
  unfold maxLen at hs
  obtain ⟨b, hb⟩ : ∃ b, ((s.size : Int) != 512) = b := ⟨_, rfl⟩
  have e : pageE s = unl (!b) 10 := by
    unfold pageE; rw [← hb, bne, show (512 : Int) = ((512 : Nat) : Int) from rfl, intBeq]; cases s.size == 512 <;> rfl
  have E := Lib.hid e
  clear e
  cases b
  all_goals
    go_enter Tryd.func19, Tryd.ntmps19
    go_wp2
    go_ret
    exact ⟨retI E.out.symm, rfl⟩

theorem NumberErr_any (n : Int) (w : World) :
    Calls Tryd.prog 49 #[.int .i64 n] w fun e w' => e = .returned (.int .i64 (lsnE n)) ∧ w = w' := by
  obtain ⟨b, hb⟩ : ∃ b, b = inB n 1 2147483647 := ⟨_, rfl⟩
  have hW := fun w => Within_any n 1 2147483647 w
  rw [← hb] at hW
  have e : lsnE n = unl b 2 := by rw [hb]; rfl
  have E := Lib.hid e
  have HW := Lib.hid hW
  clear e hW hb
  cases b
  all_goals
    go_enter Tryd.func49, Tryd.ntmps49
    go_wp2_with (go_at_call 60; refine (HW.out _).mono ?_; rintro e w' ⟨rfl, rfl⟩)
    go_ret
    exact ⟨retI E.out.symm, rfl⟩

theorem IsNumber_any (n : Int) (w : World) :
    Calls Tryd.prog 42 #[.int .i64 n] w fun e w' => e = .returned (.bool (inB n 0 2147483647)) ∧ w = w' := by
  go_enter Tryd.func42, Tryd.ntmps42
  go_wp2_with (go_at_call 60; refine (Within_any _ _ _ _).mono ?_; rintro e w' ⟨rfl, rfl⟩)
  go_ret
  exact ⟨rfl, rfl⟩

theorem Bit_any (b : Bool) (w : World) :
    Calls Tryd.prog 67 #[.bool b] w fun e w' => e = .returned (.int .i64 (if b then 1 else 0)) ∧ w = w' := by
  cases b
  all_goals
    go_enter Tryd.func67, Tryd.ntmps67
    go_wp2
    go_ret
    exact ⟨rfl, rfl⟩

theorem Power8_any (n : Nat) (w : World) (h7 : n ≤ 7) :
    Calls Tryd.prog 85 #[.int .i64 n] w fun e w' => e = .returned (.int .i64 (2 ^ n : Nat)) ∧ w = w' := by
  have : n = 0 ∨ n = 1 ∨ n = 2 ∨ n = 3 ∨ n = 4 ∨ n = 5 ∨ n = 6 ∨ n = 7 := by omega
  rcases this with rfl | rfl | rfl | rfl | rfl | rfl | rfl | rfl
  all_goals
    go_enter Tryd.func85, Tryd.ntmps85
    go_wp2
    go_ret
    exact ⟨rfl, rfl⟩

theorem isZeros_zero (s : ByteArray) (k : Nat) (h : k < s.size) : zeroL ((bl s).drop k) = (s[k] == 0 && zeroL ((bl s).drop (k + 1))) := by
  rw [drop_bl s k h]; rfl
theorem IsZeros_any (s : ByteArray) (w : World) (hs : s.size ≤ maxLen) :
    Calls Tryd.prog 65 #[.string s] w fun e w' => e = .returned (.bool (zeroL (bl s))) ∧ w = w' := by
  unfold maxLen at hs
  go_enter Tryd.func65, Tryd.ntmps65
  go_wp2
  go_loop [3] (fun i => ∃ k : Nat, k ≤ s.size ∧ i = .int .i64 k ∧ zeroL (bl s) = zeroL ((bl s).drop k)) (fun i => s.size - (intOf i).toNat)
  case atStart => exact ⟨0, Nat.zero_le _, rfl, rfl⟩
  case round =>
    obtain ⟨k, hk, rfl, hf⟩ := hrel
    have HF := Lib.hid hf
    clear hf
    by_cases hlt : k < s.size
    · have hz := isZeros_zero s k hlt
      have HZ := Lib.hid hz
      clear hz
      by_cases h0 : s[k] = 0
      · have h0' : ((s[k].toNat : Int) != 0) = false := by rw [h0]; rfl
        have H0 := Lib.hid h0
        clear h0
        go_wp2
        go_round
        case rel => exact ⟨k + 1, by omega, by go_num, by rw [HF.out, HZ.out, H0.out]; rfl⟩
        case measure => simp [intOf]; omega
      · have h0' : ((s[k].toNat : Int) != 0) = true := by
          simp only [bne_iff_ne, ne_eq]; intro h; apply h0; apply UInt8.toNat_inj.1; simpa using h
        have H0 := Lib.hid h0
        clear h0
        go_wp2
        go_ret
        exact ⟨retB (by rw [HF.out, HZ.out, beq_eq_false_iff_ne.2 H0.out]; rfl), rfl⟩
    · go_wp2
      go_ret
      exact ⟨retB (by rw [HF.out, List.drop_of_length_le (by rw [bl_length]; omega)]; rfl), rfl⟩

set_option maxRecDepth 100000 in
theorem patched_any (s b : ByteArray) (a : Nat) (w : World) (hs : s.size ≤ 3100) (h : a + b.size ≤ s.size) :
    Calls Tryd.prog 80 #[.string s, .int .i64 a, .string b] w fun e w' => e = .returned (.string (patS s a b)) ∧ Below w.heap.size w w' := by
  have h1 : a ≤ s.size := by omega
  have h2 : (a + b.size : Int) ≤ s.size := by omega
  have hz1 : (s.extract 0 a ++ b).size = a + b.size := by rw [ByteArray.size_append, ByteArray.size_extract]; omega
  go_enter Tryd.func80, Tryd.ntmps80
  go_wp2
  (refine wp_region_quiet_below (by kernel_rfl) (by kernel_rfl) ?_; (repeat (go_big_quiet_step ((first | fail)))); (with_reducible refine wpQuiet_nil ?_); intro W1 hreg; have hbW1 := below_of_reg hreg; clear hreg; obtain ⟨hcW1, hfW1⟩ := bcell hbW1)
  go_wp2
  go_ret
  exact ⟨rfl, hbW1⟩
end Go.Proofs.YtgmipogidmcilaaDoor
