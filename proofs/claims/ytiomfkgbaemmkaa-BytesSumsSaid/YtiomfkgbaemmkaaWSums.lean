/-
  BytesSums: the walk.
-/
import Derived.Test.YtiomfkgbaemmkaaAwake
namespace Go.Proofs.Ytiomfkgbaemmkaa
set_option linter.unusedVariables false
set_option linter.unusedSimpArgs false
open Go.RowKit Go.Sort

theorem hashL_add (l : List UInt8) (c : UInt8) (m : Int) : hashL (l ++ [c]) m = hashStep (hashL l m) c.toNat := by
  unfold hashL; rw [List.foldl_append]; rfl
theorem bs_add (s : ByteArray) (l : List UInt8) : s ++ bs l = bs (bl s ++ l) := by
  apply ByteArray.ext
  simp [bs, bl, ByteArray.data_append]
theorem hashL_lt (l : List UInt8) (m : Int) (h : 0 ≤ m ∧ m < 1000003) : 0 ≤ hashL l m ∧ hashL l m < 1000003 := by
  induction l generalizing m with
  | nil => exact h
  | cons a l ih => exact ih _ (hashStep_lt m a.toNat)
theorem HashOf_add (s : ByteArray) (c : UInt8) (w : World) (hs : s.size ≤ 2000) :
    Calls Try.prog 12 #[.string (s ++ bs [c])] w fun e w' => e = .returned (.tuple #[.int .i64 (hashStep (hashL (bl s) 17) c.toNat), .int .i64 0]) ∧ Below w.heap.size w w' := by
  have hsz : (s ++ bs [c]).size ≤ 200000 := by rw [ByteArray.size_append, bs_size]; simp; omega
  have hk : hashL (bl (s ++ bs [c])) 17 = hashStep (hashL (bl s) 17) c.toNat := by rw [bs_add, bl_bs, hashL_add]
  rw [← hk]
  exact HashOf_any (s ++ bs [c]) w (by unfold maxLen; omega) hsz

set_option maxRecDepth 100000 in
theorem wBytesSums_few (s : ByteArray) (c : UInt8) (w : World) (hs : s.size ≤ maxLen) (h : s.size ≤ 2000) :
    Calls Try.prog 3 #[.string s, .int .u8 c.toNat] w fun e w' => e = .returned (.bool true) ∧ Below w.heap.size w w' := by
  have h1 : decide ((s.size : Int) > 2000) = false := by simp; omega
  have hnn : ¬ (9223372036854775807 < s.size + (bs [c]).size) := by rw [bs_size]; simp; omega
  obtain ⟨H, hH⟩ : ∃ H, H = hashL (bl s) 17 := ⟨_, rfl⟩
  have hb : 0 ≤ H ∧ H < 1000003 := by rw [hH]; exact hashL_lt _ _ (by omega)
  have hc8 : c.toNat < 256 := c.toNat_lt
  have e1 : IntKind.i64.wrap (H * 31) = H * 31 := wraps_i64 60 (by omega) _ (by omega) (by omega)
  have e2 : IntKind.i64.wrap (H * 31 + c.toNat) = H * 31 + c.toNat := wraps_i64 60 (by omega) _ (by omega) (by omega)
  have e3 : hashStep H c.toNat = (H * 31 + c.toNat).tmod 1000003 := by unfold hashStep; rw [Int.tmod_eq_emod_of_nonneg (by omega)]
  have hS := HashOf_any s
  have hR := Hash_any s
  have hT := HashOf_add s c
  rw [← hH] at hS hR hT
  have HH := Lib.hid hH
  clear hH
  go_enter Try.func3, Try.ntmps3
  go_upto_region 7 with (first | (go_at_call 10; refine (awake_any _).mono ?_; rintro e W1 ⟨rfl, hbW1⟩; obtain ⟨hcW1, hfW1⟩ := bcell hbW1) | (go_at_call 11; refine (SumOf_any s _ hs (by omega)).mono ?_; rintro e W2 ⟨rfl, hbW2⟩; obtain ⟨hcW2, hfW2⟩ := bcell hbW2) | (go_at_call 12; refine (hS _ hs (by omega)).mono ?_; rintro e W3 ⟨rfl, hbW3⟩; obtain ⟨hcW3, hfW3⟩ := bcell hbW3))
  have hconv := conv_row (W3.alloc (.cells #[.int .u8 c.toNat] 5)) W3.heap.size 1 1 [c] rfl (fun j hj => by
    have : j = 0 := by have : j < 1 := hj; omega
    subst this
    rw [cell_of_row _ _ _ _ _ _ (heap_alloc_new W3 (.cells #[.int .u8 c.toNat] 5))]
    rfl)
  go_wp2_with (first | (go_at_call 12; refine (hT _ h).mono ?_; rintro e W4 ⟨rfl, hbW4⟩; obtain ⟨hcW4, hfW4⟩ := bcell hbW4) | (go_at_call 13; refine (Sum_any _ _ (by omega)).mono ?_; rintro e w' ⟨rfl, rfl⟩) | (go_at_call 14; refine (hR _ (by omega)).mono ?_; rintro e w' ⟨rfl, rfl⟩))
  go_ret
  refine ⟨retB ?_, by (repeat (first | assumption | exact Below.refl _ _ | refine bel_drewN ?_ _ | refine bel_alloc ?_ _ | refine bel_trans ?_ (by assumption) | refine Below.trans ?_ (by assumption)))⟩
  simp [e3]

theorem wBytesSums (s : ByteArray) (c : UInt8) (w : World) (hs : s.size ≤ maxLen) :
    Calls Try.prog 3 #[.string s, .int .u8 c.toNat] w fun e w' => e = .returned (.bool true) ∧ Below w.heap.size w w' := by
  by_cases h : s.size ≤ 2000
  · exact wBytesSums_few s c w hs h
  · have h1 : decide ((s.size : Int) > 2000) = true := by simp; omega
    go_enter Try.func3, Try.ntmps3
    go_wp2_with (go_at_call 10; refine (awake_any _).mono ?_; rintro e W1 ⟨rfl, hbW1⟩; obtain ⟨hcW1, hfW1⟩ := bcell hbW1)
    go_ret
    exact ⟨rfl, by (repeat (first | assumption | exact Below.refl _ _ | refine bel_drewN ?_ _ | refine bel_alloc ?_ _ | refine bel_trans ?_ (by assumption) | refine Below.trans ?_ (by assumption)))⟩
end Go.Proofs.Ytiomfkgbaemmkaa
