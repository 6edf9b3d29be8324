/-
  BytesNumbers: the walk.
-/
import Derived.Test.YtiomfkgbaemmkaaWStrings
namespace Go.Proofs.Ytiomfkgbaemmkaa
set_option linter.unusedVariables false
set_option linter.unusedSimpArgs false
open Go.RowKit Go.Sort

/-- what NumberAt and AtErr return, and, where there is no error, what LittleAt returns -/
theorem at_cases (s : ByteArray) (a c : Int) (hs : s.size ≤ 300) : ∃ v f : Int,
    (∀ w, Calls Try.prog 28 #[.string s, .int .i64 a, .int .i64 c] w fun e w' => e = .returned (.tuple #[.int .i64 v, .int .i64 f]) ∧ Below w.heap.size w w') ∧
    (∀ w, Calls Try.prog 29 #[.string s, .int .i64 a, .int .i64 c] w fun e w' => e = .returned (.int .i64 f) ∧ w = w') ∧
    ((f = 0 ∧ (∀ w, Calls Try.prog 30 #[.string s, .int .i64 a, .int .i64 c] w fun e w' => e = .returned (.int .i64 v) ∧ w = w')) ∨ ((f == 0) = false ∧ (f != 0) = true ∧ v = 0)) := by
  have hm : s.size ≤ maxLen := by unfold maxLen; omega
  refine ⟨num (bl (cutS s a c)), atE s a c, fun w => NumberAt_any s a c w hm, fun w => AtErr_any s a c w hm, ?_⟩
  by_cases h : atE s a c = 0
  · obtain ⟨_, g1, g2, g3, g4⟩ := atE_zero h
    obtain ⟨k, rfl⟩ := Int.eq_ofNat_of_zero_le g3
    obtain ⟨d, rfl⟩ := Int.eq_ofNat_of_zero_le (show 0 ≤ c by omega)
    refine .inl ⟨h, fun w => ?_⟩
    rw [cut_num s k d h]
    exact LittleAt_any s k d (by omega) hm (by omega) w
  · exact .inr ⟨by simpa using h, by simpa using h, cut_bad s a c h⟩
/-- what LittleOf and LittleErr return, and, where there is no error, what Little returns, and that it is read again -/
theorem lit_cases (n c : Int) : ∃ (t : ByteArray) (f : Int),
    (∀ w, Calls Try.prog 27 #[.int .i64 n, .int .i64 c] w fun e w' => e = .returned (.tuple #[.string t, .int .i64 f]) ∧ Below w.heap.size w w') ∧
    (∀ w, Calls Try.prog 31 #[.int .i64 n, .int .i64 c] w fun e w' => e = .returned (.int .i64 f) ∧ w = w') ∧
    ((f = 0 ∧ (∀ w, Calls Try.prog 32 #[.int .i64 n, .int .i64 c] w fun e w' => e = .returned (.string t) ∧ Below w.heap.size w w') ∧
      (∀ w, Calls Try.prog 28 #[.string t, .int .i64 0, .int .i64 c] w fun e w' => e = .returned (.tuple #[.int .i64 n, .int .i64 0]) ∧ Below w.heap.size w w')) ∨ ((f == 0) = false ∧ (f != 0) = true ∧ t = ⟨#[]⟩)) := by
  refine ⟨litS n c, litE n c, fun w => LittleOf_any n c w, fun w => LittleErr_any n c w, ?_⟩
  by_cases h : litE n c = 0
  · obtain ⟨g1, g2, g3, g4⟩ := litE_zero h
    obtain ⟨d, rfl⟩ := Int.eq_ofNat_of_zero_le (show 0 ≤ c by omega)
    have e : litS n d = bs (lit n d) := by unfold litS; rw [if_pos h]; rfl
    have hp := pow256_le d (by omega)
    have g4' : n < 256 ^ d := g4
    have hz : (bs (lit n d)).size = d := by rw [bs_size, lit_length]
    refine .inl ⟨h, ?_, ?_⟩
    · rw [e]; exact fun w => Little_any n d g3 (by omega) (by omega) w
    · intro w
      have k := NumberAt_any (bs (lit n d)) 0 d w (by unfold maxLen; omega)
      rw [cut_lit n d (by omega) (by omega) g3 g4', atE_ok _ d (by omega) (by omega) (by omega) (by omega)] at k
      rw [e]
      exact k
  · refine .inr ⟨by simpa using h, by simpa using h, ?_⟩
    unfold litS; rw [if_neg h]

set_option maxRecDepth 100000 in
set_option maxHeartbeats 1000000 in
theorem wBytesNumbers_few (s : ByteArray) (a n c : Int) (w : World) (hs : s.size ≤ 300) :
    Calls Try.prog 7 #[.int .i64 n, .int .i64 c, .agg #[.string s, .int .i64 a]] w fun e w' => e = .returned (.bool true) ∧ Below w.heap.size w w' := by
  have h1 : decide ((s.size : Int) > 300) = false := by simp; omega
  obtain ⟨v, f, hN, hE, hv⟩ := at_cases s a c hs
  obtain ⟨t, g, hL, hG, ht⟩ := lit_cases n c
  have pW0 := Plc.first w s a 46
  rcases hv with ⟨rfl, hA⟩ | ⟨f1, f2, rfl⟩ <;> rcases ht with ⟨rfl, hT, hR⟩ | ⟨g1, g2, rfl⟩
  · go_enter Try.func7, Try.ntmps7
    go_wp2_with (first | (go_at_call 10; refine (awake_any _).mono ?_; rintro e W1 ⟨rfl, hbW1⟩; have pW1 := Plc.next pW0 hbW1; obtain ⟨_, hxW1, hyW1, _⟩ := id pW1; clear hbW1) | (go_at_call 27; refine (hL _).mono ?_; rintro e W2 ⟨rfl, hbW2⟩; have pW2 := Plc.next pW1 hbW2; obtain ⟨_, hxW2, hyW2, _⟩ := id pW2; clear hbW2) | (go_at_call 28; (with_reducible refine (hN _).mono ?_); rintro e W3 ⟨rfl, hbW3⟩; have pW3 := Plc.next pW2 hbW3; obtain ⟨_, hxW3, hyW3, _⟩ := id pW3; clear hbW3) | (go_at_call 29; refine (hE _).mono ?_; rintro e w' ⟨rfl, rfl⟩) | (go_at_call 30; refine (hA _).mono ?_; rintro e w' ⟨rfl, rfl⟩) | (go_at_call 31; refine (hG _).mono ?_; rintro e w' ⟨rfl, rfl⟩) | (go_at_call 32; refine (hT _).mono ?_; rintro e W4 ⟨rfl, hbW4⟩; have pW4 := Plc.next pW3 hbW4; obtain ⟨_, hxW4, hyW4, _⟩ := id pW4; clear hbW4) | (go_at_call 28; (with_reducible refine (hR _).mono ?_); rintro e W5 ⟨rfl, hbW5⟩; have pW5 := Plc.next pW4 hbW5; obtain ⟨_, hxW5, hyW5, _⟩ := id pW5; clear hbW5))
    go_ret
    exact ⟨rfl, pW5.1⟩
  · go_enter Try.func7, Try.ntmps7
    go_wp2_with (first | (go_at_call 10; refine (awake_any _).mono ?_; rintro e W1 ⟨rfl, hbW1⟩; have pW1 := Plc.next pW0 hbW1; obtain ⟨_, hxW1, hyW1, _⟩ := id pW1; clear hbW1) | (go_at_call 27; refine (hL _).mono ?_; rintro e W2 ⟨rfl, hbW2⟩; have pW2 := Plc.next pW1 hbW2; obtain ⟨_, hxW2, hyW2, _⟩ := id pW2; clear hbW2) | (go_at_call 28; (with_reducible refine (hN _).mono ?_); rintro e W3 ⟨rfl, hbW3⟩; have pW3 := Plc.next pW2 hbW3; obtain ⟨_, hxW3, hyW3, _⟩ := id pW3; clear hbW3) | (go_at_call 29; refine (hE _).mono ?_; rintro e w' ⟨rfl, rfl⟩) | (go_at_call 30; refine (hA _).mono ?_; rintro e w' ⟨rfl, rfl⟩) | (go_at_call 31; refine (hG _).mono ?_; rintro e w' ⟨rfl, rfl⟩))
    go_ret
    exact ⟨rfl, pW3.1⟩
  · go_enter Try.func7, Try.ntmps7
    go_wp2_with (first | (go_at_call 10; refine (awake_any _).mono ?_; rintro e W1 ⟨rfl, hbW1⟩; have pW1 := Plc.next pW0 hbW1; obtain ⟨_, hxW1, hyW1, _⟩ := id pW1; clear hbW1) | (go_at_call 27; refine (hL _).mono ?_; rintro e W2 ⟨rfl, hbW2⟩; have pW2 := Plc.next pW1 hbW2; obtain ⟨_, hxW2, hyW2, _⟩ := id pW2; clear hbW2) | (go_at_call 28; (with_reducible refine (hN _).mono ?_); rintro e W3 ⟨rfl, hbW3⟩; have pW3 := Plc.next pW2 hbW3; obtain ⟨_, hxW3, hyW3, _⟩ := id pW3; clear hbW3) | (go_at_call 29; refine (hE _).mono ?_; rintro e w' ⟨rfl, rfl⟩) | (go_at_call 31; refine (hG _).mono ?_; rintro e w' ⟨rfl, rfl⟩) | (go_at_call 32; refine (hT _).mono ?_; rintro e W4 ⟨rfl, hbW4⟩; have pW4 := Plc.next pW3 hbW4; obtain ⟨_, hxW4, hyW4, _⟩ := id pW4; clear hbW4) | (go_at_call 28; (with_reducible refine (hR _).mono ?_); rintro e W5 ⟨rfl, hbW5⟩; have pW5 := Plc.next pW4 hbW5; obtain ⟨_, hxW5, hyW5, _⟩ := id pW5; clear hbW5))
    go_ret
    exact ⟨rfl, pW5.1⟩
  · go_enter Try.func7, Try.ntmps7
    go_wp2_with (first | (go_at_call 10; refine (awake_any _).mono ?_; rintro e W1 ⟨rfl, hbW1⟩; have pW1 := Plc.next pW0 hbW1; obtain ⟨_, hxW1, hyW1, _⟩ := id pW1; clear hbW1) | (go_at_call 27; refine (hL _).mono ?_; rintro e W2 ⟨rfl, hbW2⟩; have pW2 := Plc.next pW1 hbW2; obtain ⟨_, hxW2, hyW2, _⟩ := id pW2; clear hbW2) | (go_at_call 28; (with_reducible refine (hN _).mono ?_); rintro e W3 ⟨rfl, hbW3⟩; have pW3 := Plc.next pW2 hbW3; obtain ⟨_, hxW3, hyW3, _⟩ := id pW3; clear hbW3) | (go_at_call 29; refine (hE _).mono ?_; rintro e w' ⟨rfl, rfl⟩) | (go_at_call 31; refine (hG _).mono ?_; rintro e w' ⟨rfl, rfl⟩))
    go_ret
    exact ⟨rfl, pW3.1⟩
theorem wBytesNumbers (s : ByteArray) (a n c : Int) (w : World) :
    Calls Try.prog 7 #[.int .i64 n, .int .i64 c, .agg #[.string s, .int .i64 a]] w fun e w' => e = .returned (.bool true) ∧ Below w.heap.size w w' := by
  by_cases h1 : s.size ≤ 300
  · exact wBytesNumbers_few s a n c w h1
  · have k1 : decide ((s.size : Int) > 300) = true := by simp; omega
    have pW0 := Plc.first w s a 46
    go_enter Try.func7, Try.ntmps7
    go_wp2_with (go_at_call 10; refine (awake_any _).mono ?_; rintro e W1 ⟨rfl, hbW1⟩; have pW1 := Plc.next pW0 hbW1; obtain ⟨_, hxW1, hyW1, _⟩ := id pW1; clear hbW1)
    go_ret
    exact ⟨rfl, pW1.1⟩
end Go.Proofs.Ytiomfkgbaemmkaa
