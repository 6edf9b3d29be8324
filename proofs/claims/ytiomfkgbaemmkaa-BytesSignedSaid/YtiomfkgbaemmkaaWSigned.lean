/-
  BytesSigned: the walk.
-/
import Derived.Test.YtiomfkgbaemmkaaWStrings
namespace Go.Proofs.Ytiomfkgbaemmkaa
set_option linter.unusedVariables false
set_option linter.unusedSimpArgs false
open Go.RowKit Go.Sort

/-- what SignedAt and AtErr return, and, where there is no error, what SignedValue of LittleAt returns -/
theorem sat_cases (s : ByteArray) (a c : Int) (hs : s.size ≤ 300) : ∃ v f : Int,
    (∀ w, Calls Try.prog 34 #[.string s, .int .i64 a, .int .i64 c] w fun e w' => e = .returned (.tuple #[.int .i64 v, .int .i64 f]) ∧ Below w.heap.size w w') ∧
    (∀ w, Calls Try.prog 29 #[.string s, .int .i64 a, .int .i64 c] w fun e w' => e = .returned (.int .i64 f) ∧ w = w') ∧
    ((f = 0 ∧ ∃ u, (∀ w, Calls Try.prog 30 #[.string s, .int .i64 a, .int .i64 c] w fun e w' => e = .returned (.int .i64 u) ∧ w = w') ∧
      (∀ w, Calls Try.prog 35 #[.int .i64 u, .int .i64 c] w fun e w' => e = .returned (.int .i64 v) ∧ w = w')) ∨ ((f == 0) = false ∧ (f != 0) = true ∧ v = 0)) := by
  have hm : s.size ≤ maxLen := by unfold maxLen; omega
  refine ⟨satV s a c, atE s a c, fun w => SignedAt_any s a c w hm, fun w => AtErr_any s a c w hm, ?_⟩
  by_cases h : atE s a c = 0
  · obtain ⟨_, g1, g2, g3, g4⟩ := atE_zero h
    obtain ⟨k, rfl⟩ := Int.eq_ofNat_of_zero_le g3
    obtain ⟨d, rfl⟩ := Int.eq_ofNat_of_zero_le (show 0 ≤ c by omega)
    have hz := cutS_size s k d
    refine .inl ⟨h, num (bl (cutS s k d)), fun w => ?_, fun w => ?_⟩
    · rw [cut_num s k d h]
      exact LittleAt_any s k d (by omega) hm (by omega) w
    · have e : satV s k d = sval (num (bl (cutS s k d))) d := by unfold satV; rw [if_pos h]
      rw [e]
      exact SignedValue_any _ _ w (by omega) (by omega) (num_bound _).1 (num_lt6 _ hz)
  · refine .inr ⟨by simpa using h, by simpa using h, ?_⟩
    unfold satV; rw [if_neg h]
/-- what SignedOf and Signed return, and what is read of it -/
theorem sgn_cases (n : Int) (h1 : -2147483647 ≤ n) (h2 : n ≤ 2147483647) : ∃ (t : ByteArray) (K m : Int),
    (t.size : Int) = K ∧ (K = 1 ∨ K = 2 ∨ K = 3 ∨ K = 4) ∧
    (∀ w, Calls Try.prog 33 #[.int .i64 n] w fun e w' => e = .returned (.tuple #[.string t, .int .i64 0]) ∧ Below w.heap.size w w') ∧
    (∀ w, Calls Try.prog 36 #[.int .i64 n] w fun e w' => e = .returned (.string t) ∧ Below w.heap.size w w') ∧
    (∀ w, Calls Try.prog 34 #[.string t, .int .i64 0, .int .i64 K] w fun e w' => e = .returned (.tuple #[.int .i64 n, .int .i64 0]) ∧ Below w.heap.size w w') ∧
    (1 < K → (m == n) = false ∧ ∀ w, Calls Try.prog 34 #[.string t, .int .i64 0, .int .i64 (K - 1)] w fun e w' => e = .returned (.tuple #[.int .i64 m, .int .i64 0]) ∧ Below w.heap.size w w') := by
  have hk := scount_spec n
  obtain ⟨k, hk0⟩ : ∃ k, k = scount n := ⟨_, rfl⟩
  rw [← hk0] at hk
  have hz : (bs (lit n k)).size = k := by rw [bs_size, lit_length]
  have hm : (bs (lit n k)).size ≤ maxLen := by unfold maxLen; omega
  refine ⟨bs (lit n k), k, sval (n % 256 ^ (k - 1)) ((k - 1 : Nat) : Int), by rw [hz], by omega, ?_, ?_, ?_, ?_⟩
  · rw [hk0]; exact fun w => SignedOf_any n w h1 h2
  · intro w
    have := Signed_any n w h1 h2
    rw [lit_mod, ← hk0] at this
    exact this
  · intro w
    have := SignedAt_any (bs (lit n k)) 0 k w hm
    rw [atE_ok _ k (by omega) (by omega) (by omega) (by omega), sat_lit n k k (by omega) (by omega) (by omega) (by omega)] at this
    have e := sval_scount n h1 h2
    rw [← hk0] at e
    rw [e] at this
    exact this
  · intro hK
    refine ⟨?_, fun w => ?_⟩
    · have := sval_less n (k - 1) (by omega) (by omega)
      simpa using this
    · have := SignedAt_any (bs (lit n k)) 0 ((k - 1 : Nat) : Int) w hm
      rw [atE_ok _ (k - 1) (by omega) (by omega) (by omega) (by omega), sat_lit n k (k - 1) (by omega) (by omega) (by omega) (by omega)] at this
      rw [show ((k : Int) - 1) = ((k - 1 : Nat) : Int) by omega]
      exact this

set_option maxRecDepth 100000 in
set_option maxHeartbeats 1000000 in
theorem wSigned_ok (s : ByteArray) (a n c : Int) (w : World) (hs : s.size ≤ 300) (v f : Int)
    (hN : ∀ w, Calls Try.prog 34 #[.string s, .int .i64 a, .int .i64 c] w fun e w' => e = .returned (.tuple #[.int .i64 v, .int .i64 f]) ∧ Below w.heap.size w w')
    (hE : ∀ w, Calls Try.prog 29 #[.string s, .int .i64 a, .int .i64 c] w fun e w' => e = .returned (.int .i64 f) ∧ w = w')
    (hv : (f = 0 ∧ ∃ u, (∀ w, Calls Try.prog 30 #[.string s, .int .i64 a, .int .i64 c] w fun e w' => e = .returned (.int .i64 u) ∧ w = w') ∧ (∀ w, Calls Try.prog 35 #[.int .i64 u, .int .i64 c] w fun e w' => e = .returned (.int .i64 v) ∧ w = w'))) :
    Calls Try.prog 8 #[.int .i64 n, .int .i64 c, .agg #[.string s, .int .i64 a]] w fun e w' => e = .returned (.bool true) ∧ Below w.heap.size w w' := by
  have h1 : decide ((s.size : Int) > 300) = false := by simp; omega
  have pW0 := Plc.first w s a 46
  obtain ⟨rfl, u, hA, hB⟩ := hv
  cases hi : inB n (-2147483647) 2147483647
  · go_enter Try.func8, Try.ntmps8
    go_wp2_with (first | (go_at_call 10; refine (awake_any _).mono ?_; rintro e W1 ⟨rfl, hbW1⟩; have pW1 := Plc.next pW0 hbW1; obtain ⟨_, hxW1, hyW1, _⟩ := id pW1; clear hbW1) | (go_at_call 33; refine (SignedOf_out n _ hi).mono ?_; rintro e w' ⟨rfl, rfl⟩) | (go_at_call 34; (with_reducible refine (hN _).mono ?_); rintro e W3 ⟨rfl, hbW3⟩; have pW3 := Plc.next pW1 hbW3; obtain ⟨_, hxW3, hyW3, _⟩ := id pW3; clear hbW3) | (go_at_call 29; refine (hE _).mono ?_; rintro e w' ⟨rfl, rfl⟩) | (go_at_call 30; refine (hA _).mono ?_; rintro e w' ⟨rfl, rfl⟩) | (go_at_call 35; refine (hB _).mono ?_; rintro e w' ⟨rfl, rfl⟩) | (go_at_call 15; refine (Within_any _ _ _ _).mono ?_; rintro e w' ⟨rfl, rfl⟩))
    go_ret
    exact ⟨rfl, pW3.1⟩
  · have hj := inB_true.1 hi
    obtain ⟨t, K, m, hz, hK, hO, hS, hT, hM⟩ := sgn_cases n hj.1 hj.2
    clear hj
    rcases hK with rfl | rfl | rfl | rfl
    · clear hM
      go_enter Try.func8, Try.ntmps8
      go_wp2_with (first | (go_at_call 10; refine (awake_any _).mono ?_; rintro e W1 ⟨rfl, hbW1⟩; have pW1 := Plc.next pW0 hbW1; obtain ⟨_, hxW1, hyW1, _⟩ := id pW1; clear hbW1) | (go_at_call 33; refine (hO _).mono ?_; rintro e W2 ⟨rfl, hbW2⟩; have pW2 := Plc.next pW1 hbW2; obtain ⟨_, hxW2, hyW2, _⟩ := id pW2; clear hbW2) | (go_at_call 34; (with_reducible refine (hN _).mono ?_); rintro e W3 ⟨rfl, hbW3⟩; have pW3 := Plc.next pW2 hbW3; obtain ⟨_, hxW3, hyW3, _⟩ := id pW3; clear hbW3) | (go_at_call 29; refine (hE _).mono ?_; rintro e w' ⟨rfl, rfl⟩) | (go_at_call 30; refine (hA _).mono ?_; rintro e w' ⟨rfl, rfl⟩) | (go_at_call 35; refine (hB _).mono ?_; rintro e w' ⟨rfl, rfl⟩) | (go_at_call 15; refine (Within_any _ _ _ _).mono ?_; rintro e w' ⟨rfl, rfl⟩) | (go_at_call 36; refine (hS _).mono ?_; rintro e W4 ⟨rfl, hbW4⟩; have pW4 := Plc.next pW3 hbW4; obtain ⟨_, hxW4, hyW4, _⟩ := id pW4; clear hbW4) | (go_at_call 34; (with_reducible refine (hT _).mono ?_); rintro e W5 ⟨rfl, hbW5⟩; have pW5 := Plc.next pW4 hbW5; obtain ⟨_, hxW5, hyW5, _⟩ := id pW5; clear hbW5))
      go_ret
      exact ⟨rfl, pW5.1⟩
    all_goals (
      obtain ⟨hmn, hC⟩ := hM (by decide)
      simp only [Int.reduceSub] at hC
      have hmn2 : (m != n) = true := by simpa using hmn
      go_enter Try.func8, Try.ntmps8
      go_wp2_with (first | (go_at_call 10; refine (awake_any _).mono ?_; rintro e W1 ⟨rfl, hbW1⟩; have pW1 := Plc.next pW0 hbW1; obtain ⟨_, hxW1, hyW1, _⟩ := id pW1; clear hbW1) | (go_at_call 33; refine (hO _).mono ?_; rintro e W2 ⟨rfl, hbW2⟩; have pW2 := Plc.next pW1 hbW2; obtain ⟨_, hxW2, hyW2, _⟩ := id pW2; clear hbW2) | (go_at_call 34; (with_reducible refine (hN _).mono ?_); rintro e W3 ⟨rfl, hbW3⟩; have pW3 := Plc.next pW2 hbW3; obtain ⟨_, hxW3, hyW3, _⟩ := id pW3; clear hbW3) | (go_at_call 29; refine (hE _).mono ?_; rintro e w' ⟨rfl, rfl⟩) | (go_at_call 30; refine (hA _).mono ?_; rintro e w' ⟨rfl, rfl⟩) | (go_at_call 35; refine (hB _).mono ?_; rintro e w' ⟨rfl, rfl⟩) | (go_at_call 15; refine (Within_any _ _ _ _).mono ?_; rintro e w' ⟨rfl, rfl⟩) | (go_at_call 36; refine (hS _).mono ?_; rintro e W4 ⟨rfl, hbW4⟩; have pW4 := Plc.next pW3 hbW4; obtain ⟨_, hxW4, hyW4, _⟩ := id pW4; clear hbW4) | (go_at_call 34; (with_reducible refine (hT _).mono ?_); rintro e W5 ⟨rfl, hbW5⟩; have pW5 := Plc.next pW4 hbW5; obtain ⟨_, hxW5, hyW5, _⟩ := id pW5; clear hbW5) | (go_at_call 34; (with_reducible refine (hC _).mono ?_); rintro e W6 ⟨rfl, hbW6⟩; have pW6 := Plc.next pW5 hbW6; obtain ⟨_, hxW6, hyW6, _⟩ := id pW6; clear hbW6))
      go_ret
      exact ⟨retB (by simp [hmn2]), pW6.1⟩)
set_option maxRecDepth 100000 in
set_option maxHeartbeats 1000000 in
theorem wSigned_bad (s : ByteArray) (a n c : Int) (w : World) (hs : s.size ≤ 300) (v f : Int)
    (hN : ∀ w, Calls Try.prog 34 #[.string s, .int .i64 a, .int .i64 c] w fun e w' => e = .returned (.tuple #[.int .i64 v, .int .i64 f]) ∧ Below w.heap.size w w')
    (hE : ∀ w, Calls Try.prog 29 #[.string s, .int .i64 a, .int .i64 c] w fun e w' => e = .returned (.int .i64 f) ∧ w = w')
    (hv : ((f == 0) = false ∧ (f != 0) = true ∧ v = 0)) :
    Calls Try.prog 8 #[.int .i64 n, .int .i64 c, .agg #[.string s, .int .i64 a]] w fun e w' => e = .returned (.bool true) ∧ Below w.heap.size w w' := by
  have h1 : decide ((s.size : Int) > 300) = false := by simp; omega
  have pW0 := Plc.first w s a 46
  obtain ⟨f1, f2, rfl⟩ := hv
  cases hi : inB n (-2147483647) 2147483647
  · go_enter Try.func8, Try.ntmps8
    go_wp2_with (first | (go_at_call 10; refine (awake_any _).mono ?_; rintro e W1 ⟨rfl, hbW1⟩; have pW1 := Plc.next pW0 hbW1; obtain ⟨_, hxW1, hyW1, _⟩ := id pW1; clear hbW1) | (go_at_call 33; refine (SignedOf_out n _ hi).mono ?_; rintro e w' ⟨rfl, rfl⟩) | (go_at_call 34; (with_reducible refine (hN _).mono ?_); rintro e W3 ⟨rfl, hbW3⟩; have pW3 := Plc.next pW1 hbW3; obtain ⟨_, hxW3, hyW3, _⟩ := id pW3; clear hbW3) | (go_at_call 29; refine (hE _).mono ?_; rintro e w' ⟨rfl, rfl⟩) | (go_at_call 29; refine (hE _).mono ?_; rintro e w' ⟨rfl, rfl⟩) | (go_at_call 29; refine (hE _).mono ?_; rintro e w' ⟨rfl, rfl⟩) | (go_at_call 15; refine (Within_any _ _ _ _).mono ?_; rintro e w' ⟨rfl, rfl⟩))
    go_ret
    exact ⟨rfl, pW3.1⟩
  · have hj := inB_true.1 hi
    obtain ⟨t, K, m, hz, hK, hO, hS, hT, hM⟩ := sgn_cases n hj.1 hj.2
    clear hj
    rcases hK with rfl | rfl | rfl | rfl
    · clear hM
      go_enter Try.func8, Try.ntmps8
      go_wp2_with (first | (go_at_call 10; refine (awake_any _).mono ?_; rintro e W1 ⟨rfl, hbW1⟩; have pW1 := Plc.next pW0 hbW1; obtain ⟨_, hxW1, hyW1, _⟩ := id pW1; clear hbW1) | (go_at_call 33; refine (hO _).mono ?_; rintro e W2 ⟨rfl, hbW2⟩; have pW2 := Plc.next pW1 hbW2; obtain ⟨_, hxW2, hyW2, _⟩ := id pW2; clear hbW2) | (go_at_call 34; (with_reducible refine (hN _).mono ?_); rintro e W3 ⟨rfl, hbW3⟩; have pW3 := Plc.next pW2 hbW3; obtain ⟨_, hxW3, hyW3, _⟩ := id pW3; clear hbW3) | (go_at_call 29; refine (hE _).mono ?_; rintro e w' ⟨rfl, rfl⟩) | (go_at_call 29; refine (hE _).mono ?_; rintro e w' ⟨rfl, rfl⟩) | (go_at_call 29; refine (hE _).mono ?_; rintro e w' ⟨rfl, rfl⟩) | (go_at_call 15; refine (Within_any _ _ _ _).mono ?_; rintro e w' ⟨rfl, rfl⟩) | (go_at_call 36; refine (hS _).mono ?_; rintro e W4 ⟨rfl, hbW4⟩; have pW4 := Plc.next pW3 hbW4; obtain ⟨_, hxW4, hyW4, _⟩ := id pW4; clear hbW4) | (go_at_call 34; (with_reducible refine (hT _).mono ?_); rintro e W5 ⟨rfl, hbW5⟩; have pW5 := Plc.next pW4 hbW5; obtain ⟨_, hxW5, hyW5, _⟩ := id pW5; clear hbW5))
      go_ret
      exact ⟨rfl, pW5.1⟩
    all_goals (
      obtain ⟨hmn, hC⟩ := hM (by decide)
      simp only [Int.reduceSub] at hC
      have hmn2 : (m != n) = true := by simpa using hmn
      go_enter Try.func8, Try.ntmps8
      go_wp2_with (first | (go_at_call 10; refine (awake_any _).mono ?_; rintro e W1 ⟨rfl, hbW1⟩; have pW1 := Plc.next pW0 hbW1; obtain ⟨_, hxW1, hyW1, _⟩ := id pW1; clear hbW1) | (go_at_call 33; refine (hO _).mono ?_; rintro e W2 ⟨rfl, hbW2⟩; have pW2 := Plc.next pW1 hbW2; obtain ⟨_, hxW2, hyW2, _⟩ := id pW2; clear hbW2) | (go_at_call 34; (with_reducible refine (hN _).mono ?_); rintro e W3 ⟨rfl, hbW3⟩; have pW3 := Plc.next pW2 hbW3; obtain ⟨_, hxW3, hyW3, _⟩ := id pW3; clear hbW3) | (go_at_call 29; refine (hE _).mono ?_; rintro e w' ⟨rfl, rfl⟩) | (go_at_call 29; refine (hE _).mono ?_; rintro e w' ⟨rfl, rfl⟩) | (go_at_call 29; refine (hE _).mono ?_; rintro e w' ⟨rfl, rfl⟩) | (go_at_call 15; refine (Within_any _ _ _ _).mono ?_; rintro e w' ⟨rfl, rfl⟩) | (go_at_call 36; refine (hS _).mono ?_; rintro e W4 ⟨rfl, hbW4⟩; have pW4 := Plc.next pW3 hbW4; obtain ⟨_, hxW4, hyW4, _⟩ := id pW4; clear hbW4) | (go_at_call 34; (with_reducible refine (hT _).mono ?_); rintro e W5 ⟨rfl, hbW5⟩; have pW5 := Plc.next pW4 hbW5; obtain ⟨_, hxW5, hyW5, _⟩ := id pW5; clear hbW5) | (go_at_call 34; (with_reducible refine (hC _).mono ?_); rintro e W6 ⟨rfl, hbW6⟩; have pW6 := Plc.next pW5 hbW6; obtain ⟨_, hxW6, hyW6, _⟩ := id pW6; clear hbW6))
      go_ret
      exact ⟨retB (by simp [hmn2]), pW6.1⟩)
theorem wBytesSigned (s : ByteArray) (a n c : Int) (w : World) :
    Calls Try.prog 8 #[.int .i64 n, .int .i64 c, .agg #[.string s, .int .i64 a]] w fun e w' => e = .returned (.bool true) ∧ Below w.heap.size w w' := by
  by_cases h1 : s.size ≤ 300
  · obtain ⟨v, f, hN, hE, hv⟩ := sat_cases s a c h1
    rcases hv with h | h
    · exact wSigned_ok s a n c w h1 v f hN hE h
    · exact wSigned_bad s a n c w h1 v f hN hE h
  · have k1 : decide ((s.size : Int) > 300) = true := by simp; omega
    have pW0 := Plc.first w s a 46
    go_enter Try.func8, Try.ntmps8
    go_wp2_with (go_at_call 10; refine (awake_any _).mono ?_; rintro e W1 ⟨rfl, hbW1⟩; have pW1 := Plc.next pW0 hbW1; obtain ⟨_, hxW1, hyW1, _⟩ := id pW1; clear hbW1)
    go_ret
    exact ⟨rfl, pW1.1⟩
end Go.Proofs.Ytiomfkgbaemmkaa
