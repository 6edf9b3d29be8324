/-
  The small functions of package bytes and of the helpers: within, unless, first, stringErr, countErr, limit. Each returns what its plain function says, and memory is as it was.
-/
import Derived.Test.YtiomfkgbaemmkaaChecked
import Derived.Test.YtiomfkgbaemmkaaPlain
import Derived.WalkKit
import Derived.WalkLawsBesides
import Derived.WalkSpells
import Derived.Lib.Hide
import Derived.Deep.QuietTactic
import Derived.BigQuiet
import Derived.Deep.DeepFit
namespace Go.Proofs.Ytiomfkgbaemmkaa
open Go.RowKit

theorem within_any (n lo hi : Int) (w : World) :
    Calls Try.prog 49 #[.int .i64 n, .int .i64 lo, .int .i64 hi] w fun e w' => e = .returned (.bool (inB n lo hi)) ∧ w = w' := by
  by_cases h : lo ≤ n
  · go_enter Try.func49, Try.ntmps49
    go_wp2
    go_ret
    exact ⟨by simp [inB, h], rfl⟩
  · go_enter Try.func49, Try.ntmps49
    go_wp2
    go_ret
    exact ⟨by simp [inB]; omega, rfl⟩
theorem unless_any (ok : Bool) (e : Int) (w : World) :
    Calls Try.prog 48 #[.bool ok, .int .i64 e] w fun e' w' => e' = .returned (.int .i64 (unl ok e)) ∧ w = w' := by
  cases ok
  · go_enter Try.func48, Try.ntmps48
    go_wp2
    go_ret
    exact ⟨rfl, rfl⟩
  · go_enter Try.func48, Try.ntmps48
    go_wp2
    go_ret
    exact ⟨rfl, rfl⟩
/-- The first error of a list that lies in a row of cells. -/
theorem first_any (b o : Nat) (es : List Int) (w : World) (hlen : es.length ≤ 100)
    (hc : ∀ k (_ : k < es.length), w.cell? ⟨b, o + k, none⟩ = some (.int .i64 es[k])) :
    Calls Try.prog 46 #[.slice (some ⟨b, o, none⟩) es.length es.length] w fun e w' => e = .returned (.int .i64 (firstE es)) ∧ w = w' := by
  go_enter Try.func46, Try.ntmps46
  go_wp2
  go_loop [7] (fun i => ∃ k : Nat, k ≤ es.length ∧ i = .int .i64 k ∧ firstE es = firstE (es.drop k)) (fun i => es.length - (intOf i).toNat)
  case atStart => exact ⟨0, Nat.zero_le _, rfl, rfl⟩
  case round =>
    obtain ⟨k, hk, rfl, hf⟩ := hrel
    have HF := Lib.hid hf
    clear hf
    by_cases hlt : k < es.length
    · have hck := hc k hlt
      have hd : es.drop k = es[k] :: es.drop (k + 1) := List.drop_eq_getElem_cons hlt
      have HD := Lib.hid hd
      clear hd hc
      by_cases h0 : es[k] = 0
      · have h0' : (es[k] != 0) = false := by simp [h0]
        have H0 := Lib.hid h0
        clear h0
        go_wp2
        go_round
        case rel => exact ⟨k + 1, by omega, by go_num, by rw [HF.out, HD.out]; simp [firstE, H0.out]⟩
        case measure => simp [intOf]; omega
      · have h0' : (es[k] != 0) = true := by simp [h0]
        have H0 := Lib.hid h0
        clear h0
        go_wp2
        go_ret
        exact ⟨by rw [HF.out, HD.out]; simp [firstE, H0.out], rfl⟩
    · go_wp2
      go_ret
      exact ⟨by rw [HF.out, List.drop_of_length_le (by omega)]; rfl, rfl⟩
theorem bcell {W w1 : World} (hb : Below W.heap.size W w1) : (∀ b o, b < W.heap.size → w1.cell? ⟨b, o, none⟩ = W.cell? ⟨b, o, none⟩) ∧ (∀ b o, b < W.heap.size → w1.frozen? ⟨b, o, none⟩ = W.frozen? ⟨b, o, none⟩) :=
  ⟨fun b o h => hb.cell (p := ⟨b, o, none⟩) h, fun b o h => hb.frozen (p := ⟨b, o, none⟩) h⟩

theorem first_list (es : List Int) (w : World) (hlen : es.length ≤ 100) :
    Calls Try.prog 46 #[.slice (some ⟨w.heap.size, 0, none⟩) es.length es.length] (w.alloc (.cells (es.map (Value.int .i64)).toArray 23)) fun e w' => e = .returned (.int .i64 (firstE es)) ∧ w.alloc (.cells (es.map (Value.int .i64)).toArray 23) = w' :=
  first_any _ _ es _ hlen fun k hk => by simp [hk]
theorem stringErr_any (s : ByteArray) (w : World) (_hs : s.size ≤ maxLen) :
    Calls Try.prog 47 #[.string s] w fun e w' => e = .returned (.int .i64 (strE s)) ∧ w = w' := by
  unfold maxLen at _hs
  go_enter Try.func47, Try.ntmps47
  go_wp2_with (go_at_call 48; refine (unless_any _ _ _).mono ?_; rintro e w' ⟨rfl, rfl⟩)
  go_ret
  exact ⟨rfl, rfl⟩

theorem countErr_any (n : Int) (w : World) :
    Calls Try.prog 57 #[.int .i64 n] w fun e w' => e = .returned (.int .i64 (cntE n)) ∧ w = w' := by
  go_enter Try.func57, Try.ntmps57
  go_wp2_with (first | (go_at_call 48; refine (unless_any _ _ _).mono ?_; rintro e w' ⟨rfl, rfl⟩) | (go_at_call 49; refine (within_any _ _ _ _).mono ?_; rintro e w' ⟨rfl, rfl⟩))
  go_ret
  exact ⟨rfl, rfl⟩

theorem limit_any (n : Int) (w : World) (h0 : 0 ≤ n) (h7 : n ≤ 7) :
    Calls Try.prog 58 #[.int .i64 n] w fun e w' => e = .returned (.int .i64 (256 ^ n.toNat)) ∧ w = w' := by
  have : n = 0 ∨ n = 1 ∨ n = 2 ∨ n = 3 ∨ n = 4 ∨ n = 5 ∨ n = 6 ∨ n = 7 := by omega
  rcases this with rfl | rfl | rfl | rfl | rfl | rfl | rfl | rfl
  all_goals
    go_enter Try.func58, Try.ntmps58
    go_wp2
    go_ret
    exact ⟨rfl, rfl⟩

theorem Within_any (n lo hi : Int) (w : World) :
    Calls Try.prog 15 #[.int .i64 n, .int .i64 lo, .int .i64 hi] w fun e w' => e = .returned (.bool (inB n lo hi)) ∧ w = w' := by
  by_cases h : lo ≤ n
  · go_enter Try.func15, Try.ntmps15
    go_wp2
    go_ret
    exact ⟨by simp [inB, h], rfl⟩
  · go_enter Try.func15, Try.ntmps15
    go_wp2
    go_ret
    exact ⟨by simp [inB]; omega, rfl⟩

theorem StringErr_any (s : ByteArray) (w : World) (_hs : s.size ≤ maxLen) :
    Calls Try.prog 55 #[.string s] w fun e w' => e = .returned (.int .i64 (strE s)) ∧ w = w' := by
  unfold maxLen at _hs
  by_cases h : (200000 : Int) < s.size
  · go_enter Try.func55, Try.ntmps55
    go_wp2
    go_ret
    have e : strE s = 8 := (strE_cases s).resolve_left (fun h' => by have := strE_zero.1 h'; omega)
    exact ⟨retI e.symm, rfl⟩
  · go_enter Try.func55, Try.ntmps55
    go_wp2
    go_ret
    have e : strE s = 0 := strE_zero.2 (by omega)
    exact ⟨retI e.symm, rfl⟩

theorem Power_any (n : Int) (w : World) (h0 : 0 ≤ n) (h7 : n ≤ 7) :
    Calls Try.prog 79 #[.int .i64 (8 * n)] w fun e w' => e = .returned (.int .i64 (256 ^ n.toNat)) ∧ w = w' := by
  have : n = 0 ∨ n = 1 ∨ n = 2 ∨ n = 3 ∨ n = 4 ∨ n = 5 ∨ n = 6 ∨ n = 7 := by omega
  rcases this with rfl | rfl | rfl | rfl | rfl | rfl | rfl | rfl
  all_goals
    go_enter Try.func79, Try.ntmps79
    go_wp2
    go_ret
    exact ⟨rfl, rfl⟩

theorem power256_any (n : Int) (w : World) (h0 : 0 ≤ n) (h7 : n ≤ 7) :
    Calls Try.prog 62 #[.int .i64 n] w fun e w' => e = .returned (.int .i64 (256 ^ n.toNat)) ∧ w = w' := by
  go_enter Try.func62, Try.ntmps62
  go_wp2_with (go_at_call 79; refine (Power_any _ _ h0 h7).mono ?_; rintro e w' ⟨rfl, rfl⟩)
  go_ret
  exact ⟨rfl, rfl⟩

theorem Mod_any (a c : Int) (w : World) (h0 : -1152921504606846976 ≤ a) (h1 : a ≤ 1152921504606846976) (h2 : 0 < c) (h3 : c ≤ 1152921504606846976) :
    Calls Try.prog 45 #[.int .i64 a, .int .i64 c] w fun e w' => e = .returned (.int .i64 (a % c)) ∧ w = w' := by
  have hm := Int.emod_nonneg a (b := c) (by omega)
  have hm2 := Int.emod_lt_of_pos a h2
  by_cases hp : 0 ≤ a
  · go_enter Try.func45, Try.ntmps45
    go_wp2
    go_ret
    exact ⟨rfl, rfl⟩
  · obtain ⟨t, ht⟩ : ∃ t, t = a.tmod c := ⟨_, rfl⟩
    have e := Int.tmod_eq_emod (a := a) (b := c)
    rw [← ht] at e
    have ht' : a.tmod c = t := ht.symm
    clear ht
    by_cases hd : c ∣ a
    · rw [if_pos (Or.inr hd)] at e
      have e0 : a % c = 0 := Int.emod_eq_zero_of_dvd hd
      have ht0 : t = 0 := by omega
      subst ht0
      have E0 := Lib.hid e0
      clear e e0
      go_enter Try.func45, Try.ntmps45
      go_wp2
      go_ret
      exact ⟨retI E0.out.symm, rfl⟩
    · rw [if_neg (by omega)] at e
      have e1 : a % c = t + c := by omega
      have ht0 : t < 0 := by omega
      have ht1 : -c ≤ t := by omega
      have E0 := Lib.hid e1
      clear e e1
      go_enter Try.func45, Try.ntmps45
      go_wp2
      go_ret
      exact ⟨retI E0.out.symm, rfl⟩

theorem SumOf1_any (a c : Int) (w : World) (h0 : 0 ≤ a) (h1 : a < 2147483648) (h2 : 0 ≤ c) (h3 : c < 256) :
    Calls Try.prog 43 #[.int .i64 a, .int .i64 c] w fun e w' => e = .returned (.int .i64 (sumStep a c)) ∧ w = w' := by
  have hb := rot_eq a h0 h1
  obtain ⟨x, hx⟩ : ∃ x, x = a * 2 % 2147483648 + a / 1073741824 := ⟨_, rfl⟩
  rw [← hx] at hb
  have hx0 : 0 ≤ x := by omega
  have hx1 : x < 4294967296 := by omega
  have HX := Lib.hid hx
  clear hx
  go_enter Try.func43, Try.ntmps43
  go_wp2
  go_ret
  exact ⟨retI (by rw [HX.out]; rfl), rfl⟩

theorem HashOf1_any (a c : Int) (w : World) (h0 : 0 ≤ a) (h1 : a < 1000003) (h2 : 0 ≤ c) (h3 : c < 256) :
    Calls Try.prog 44 #[.int .i64 a, .int .i64 c] w fun e w' => e = .returned (.int .i64 (hashStep a c)) ∧ w = w' := by
  go_enter Try.func44, Try.ntmps44
  go_wp2
  go_ret
  exact ⟨rfl, rfl⟩


theorem Sum_any (s : ByteArray) (w : World) (hs : s.size ≤ 1000000) :
    Calls Try.prog 13 #[.string s] w fun e w' => e = .returned (.int .i64 (sumL (bl s) 0)) ∧ w = w' := by
  go_enter Try.func13, Try.ntmps13
  go_wp2
  go_loop [3, 4] (fun n i => ∃ (k : Nat) (m : Int), k ≤ s.size ∧ i = .int .i64 k ∧ n = .int .i64 m ∧ 0 ≤ m ∧ m < 2147483648 ∧ sumL (bl s) 0 = sumL ((bl s).drop k) m) (fun _ i => s.size - (intOf i).toNat)
  case atStart => exact ⟨0, _, Nat.zero_le _, rfl, rfl, by omega, by omega, rfl⟩
  case round =>
    obtain ⟨k, m, hk, rfl, rfl, hm0, hm1, hf⟩ := hrel
    have HF := Lib.hid hf
    clear hf
    by_cases hlt : k < s.size
    · have hc : s[k].toNat < 256 := s[k].toNat_lt
      go_wp2_with (go_at_call 45; refine (Mod_any _ _ _ (by omega) (by omega) (by omega) (by omega)).mono ?_; rintro e w' ⟨rfl, rfl⟩)
      go_round
      case rel => exact ⟨k + 1, _, by omega, by go_num, rfl, by omega, by omega, by rw [HF.out, sumL_step s k hlt]; rfl⟩
      case measure => simp [intOf]; omega
    · go_wp2
      go_ret
      exact ⟨retI (by rw [HF.out, List.drop_of_length_le (by rw [bl_length]; omega)]; rfl), rfl⟩
theorem Hash_any (s : ByteArray) (w : World) (hs : s.size ≤ 1000000) :
    Calls Try.prog 14 #[.string s] w fun e w' => e = .returned (.int .i64 (hashL (bl s) 17)) ∧ w = w' := by
  go_enter Try.func14, Try.ntmps14
  go_wp2
  go_loop [3, 4] (fun n i => ∃ (k : Nat) (m : Int), k ≤ s.size ∧ i = .int .i64 k ∧ n = .int .i64 m ∧ 0 ≤ m ∧ m < 1000003 ∧ hashL (bl s) 17 = hashL ((bl s).drop k) m) (fun _ i => s.size - (intOf i).toNat)
  case atStart => exact ⟨0, _, Nat.zero_le _, rfl, rfl, by omega, by omega, rfl⟩
  case round =>
    obtain ⟨k, m, hk, rfl, rfl, hm0, hm1, hf⟩ := hrel
    have HF := Lib.hid hf
    clear hf
    by_cases hlt : k < s.size
    · have hc : s[k].toNat < 256 := s[k].toNat_lt
      go_wp2_with (go_at_call 45; refine (Mod_any _ _ _ (by omega) (by omega) (by omega) (by omega)).mono ?_; rintro e w' ⟨rfl, rfl⟩)
      go_round
      case rel => exact ⟨k + 1, _, by omega, by go_num, rfl, by omega, by omega, by rw [HF.out, hashL_step s k hlt]; rfl⟩
      case measure => simp [intOf]; omega
    · go_wp2
      go_ret
      exact ⟨retI (by rw [HF.out, List.drop_of_length_le (by rw [bl_length]; omega)]; rfl), rfl⟩

theorem number_any (s : ByteArray) (w : World) (hs : s.size ≤ 7) :
    Calls Try.prog 61 #[.string s] w fun e w' => e = .returned (.int .i64 (num (bl s))) ∧ w = w' := by
  go_enter Try.func61, Try.ntmps61
  go_wp2
  go_loop [3, 4] (fun n i => ∃ (k : Nat), k ≤ s.size ∧ i = .int .i64 ((k : Int) - 1) ∧ n = .int .i64 (num ((bl s).drop k))) (fun _ i => (intOf i + 1).toNat)
  case atStart => exact ⟨s.size, Nat.le_refl _, rfl, by rw [List.drop_of_length_le (by rw [bl_length]; omega)]; rfl⟩
  case round =>
    obtain ⟨k, hk, rfl, rfl⟩ := hrel
    by_cases hlt : 1 ≤ k
    · obtain ⟨j, rfl⟩ : ∃ j, k = j + 1 := ⟨k - 1, by omega⟩
      have hj : j < s.size := by omega
      have hc : s[j].toNat < 256 := s[j].toNat_lt
      have hm0 := (num_bound ((bl s).drop (j + 1))).1
      have hm2 : num ((bl s).drop (j + 1)) < 281474976710656 := num_lt6 _ (by rw [List.length_drop, bl_length]; omega)
      have hb := or_byte _ s[j].toNat hm0 hm2 (by omega) (by omega)
      have hn : num ((bl s).drop j) = s[j].toNat + 256 * num ((bl s).drop (j + 1)) := by rw [drop_bl s j hj]; rfl
      have HN := Lib.hid hn
      clear hn
      go_wp2
      go_round
      case rel => exact ⟨j, by omega, rfl, by rw [HN.out]; go_num⟩
      case measure => simp [intOf]
    · go_wp2
      go_ret
      obtain rfl : k = 0 := by omega
      exact ⟨rfl, rfl⟩

theorem cut_any (s : ByteArray) (a c : Int) (w : World) (hs : s.size ≤ maxLen) :
    Calls Try.prog 60 #[.string s, .int .i64 a, .int .i64 c] w fun e w' => e = .returned (.tuple #[.string (cutS s a c), .int .i64 (atE s a c)]) ∧ Below w.heap.size w w' := by
  have hs' := hs
  unfold maxLen at hs'
  by_cases h12 : strE s = 0 ∧ cntE c = 0
  · obtain ⟨h1, h2⟩ := h12
    have hc := cntE_zero.1 h2
    have h3 : (firstE [strE s, cntE c] != 0) = false := by simp [firstE, h1, h2]
    have H1 := Lib.hid h1
    have H2 := Lib.hid h2
    clear h1 h2
    cases h4 : inB a 0 (s.size - c)
    · have e : atE s a c = 37 := by simp [atE, H1.out, H2.out, h4, unl]
      have E := Lib.hid e
      clear e
      go_enter Try.func60, Try.ntmps60
      go_wp2_with (first | (go_at_call 47; refine (stringErr_any _ _ hs).mono ?_; rintro e w' ⟨rfl, rfl⟩) | (go_at_call 57; refine (countErr_any _ _).mono ?_; rintro e w' ⟨rfl, rfl⟩) | (go_at_call 46; refine (first_list [_, _] w (by simp)).mono ?_; rintro e w' ⟨rfl, rfl⟩) | (go_at_call 49; refine (within_any _ _ _ _).mono ?_; rintro e w' ⟨rfl, rfl⟩))
      go_ret2
      exact ⟨retSI (by simp [cutS, E.out]) E.out.symm, (Below.refl _ _).alloc (Nat.le_refl _) _⟩
    · have h5 := inB_true.1 h4
      have e : atE s a c = 0 := by simp [atE, H1.out, H2.out, h4, unl]
      have E := Lib.hid e
      clear e
      go_enter Try.func60, Try.ntmps60
      go_wp2_with (first | (go_at_call 47; refine (stringErr_any _ _ hs).mono ?_; rintro e w' ⟨rfl, rfl⟩) | (go_at_call 57; refine (countErr_any _ _).mono ?_; rintro e w' ⟨rfl, rfl⟩) | (go_at_call 46; refine (first_list [_, _] w (by simp)).mono ?_; rintro e w' ⟨rfl, rfl⟩) | (go_at_call 49; refine (within_any _ _ _ _).mono ?_; rintro e w' ⟨rfl, rfl⟩))
      go_ret2
      exact ⟨retSI (by simp [cutS, E.out]) E.out.symm, (Below.refl _ _).alloc (Nat.le_refl _) _⟩
  · have h3 : (firstE [strE s, cntE c] != 0) = true ∧ firstE [strE s, cntE c] = atE s a c ∧ atE s a c ≠ 0 := by
      by_cases h1 : strE s = 0
      · have h2 : cntE c ≠ 0 := fun h => h12 ⟨h1, h⟩
        simp [firstE, atE, h1, h2]
      · simp [firstE, atE, h1]
    obtain ⟨h3, e, e0⟩ := h3
    have E := Lib.hid e
    have E0 := Lib.hid e0
    clear e e0 h12
    go_enter Try.func60, Try.ntmps60
    go_wp2_with (first | (go_at_call 47; refine (stringErr_any _ _ hs).mono ?_; rintro e w' ⟨rfl, rfl⟩) | (go_at_call 57; refine (countErr_any _ _).mono ?_; rintro e w' ⟨rfl, rfl⟩) | (go_at_call 46; refine (first_list [_, _] w (by simp)).mono ?_; rintro e w' ⟨rfl, rfl⟩) | (go_at_call 49; refine (within_any _ _ _ _).mono ?_; rintro e w' ⟨rfl, rfl⟩))
    go_ret2
    exact ⟨retSI (by simp [cutS, E0.out]) E.out, (Below.refl _ _).alloc (Nat.le_refl _) _⟩

theorem NumberAt_any (s : ByteArray) (a c : Int) (w : World) (hs : s.size ≤ maxLen) :
    Calls Try.prog 28 #[.string s, .int .i64 a, .int .i64 c] w fun e w' => e = .returned (.tuple #[.int .i64 (num (bl (cutS s a c))), .int .i64 (atE s a c)]) ∧ Below w.heap.size w w' := by
  have hz := cutS_size s a c
  go_enter Try.func28, Try.ntmps28
  go_wp2_with (first | (go_at_call 60; refine (cut_any _ _ _ _ hs).mono ?_; rintro e W1 ⟨rfl, hbW1⟩; obtain ⟨hcW1, hfW1⟩ := bcell hbW1) | (go_at_call 61; refine (number_any _ _ (by omega)).mono ?_; rintro e w' ⟨rfl, rfl⟩))
  go_ret2
  exact ⟨rfl, hbW1⟩
end Go.Proofs.Ytiomfkgbaemmkaa
