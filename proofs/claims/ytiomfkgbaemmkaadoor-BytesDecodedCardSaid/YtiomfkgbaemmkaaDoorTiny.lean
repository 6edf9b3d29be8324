/-
  The small functions of package bytes and of the helpers: within, unless, first, stringErr, countErr, limit. Each returns what its plain function says, and memory is as it was.
-/
import Derived.Test.YtiomfkgbaemmkaaDoorChecked
import Derived.Test.YtiomfkgbaemmkaaDoorPlain
import Derived.WalkKit
import Derived.WalkLawsBesides
import Derived.WalkSpells
import Derived.Lib.Hide
import Derived.Deep.QuietTactic
import Derived.BigQuiet
import Derived.Deep.DeepFit
namespace Go.Proofs.YtiomfkgbaemmkaaDoor
open Go.RowKit

theorem within_any (n lo hi : Int) (w : World) :
    Calls Tryd.prog 38 #[.int .i64 n, .int .i64 lo, .int .i64 hi] w fun e w' => e = .returned (.bool (inB n lo hi)) ∧ w = w' := by
  by_cases h : lo ≤ n
  · go_enter Tryd.func38, Tryd.ntmps38
    go_wp2
    go_ret
    exact ⟨by simp [inB, h], rfl⟩
  · go_enter Tryd.func38, Tryd.ntmps38
    go_wp2
    go_ret
    exact ⟨by simp [inB]; omega, rfl⟩
theorem unless_any (ok : Bool) (e : Int) (w : World) :
    Calls Tryd.prog 44 #[.bool ok, .int .i64 e] w fun e' w' => e' = .returned (.int .i64 (unl ok e)) ∧ w = w' := by
  cases ok
  · go_enter Tryd.func44, Tryd.ntmps44
    go_wp2
    go_ret
    exact ⟨rfl, rfl⟩
  · go_enter Tryd.func44, Tryd.ntmps44
    go_wp2
    go_ret
    exact ⟨rfl, rfl⟩
/-- The first error of a list that lies in a row of cells. -/
theorem first_any (b o : Nat) (es : List Int) (w : World) (hlen : es.length ≤ 100)
    (hc : ∀ k (_ : k < es.length), w.cell? ⟨b, o + k, none⟩ = some (.int .i64 es[k])) :
    Calls Tryd.prog 31 #[.slice (some ⟨b, o, none⟩) es.length es.length] w fun e w' => e = .returned (.int .i64 (firstE es)) ∧ w = w' := by
  go_enter Tryd.func31, Tryd.ntmps31
  go_wp2
  go_loop [7] (fun i => ∃ k : Nat, k ≤ es.length ∧ i = .int .i64 k ∧ firstE es = firstE (es.drop k)) (fun i => es.length - (intOf i).toNat)
  case atStart => exact ⟨0, Nat.zero_le _, rfl, rfl⟩
  case round =>
    obtain ⟨k, hk, rfl, hf⟩ := hrel
    have HF := Lib.hid hf
    clear hf
    by_cases hlt : k < es.length
    · have hck := hc k hlt
      have hd : es.drop k = es[k] :: es.drop (k + 1) := List.drop_eq_getElem_cons hlt
      have HD := Lib.hid hd
      clear hd hc
      by_cases h0 : es[k] = 0
      · have h0' : (es[k] != 0) = false := by simp [h0]
        have H0 := Lib.hid h0
        clear h0
        go_wp2
        go_round
        case rel => exact ⟨k + 1, by omega, by go_num, by rw [HF.out, HD.out]; simp [firstE, H0.out]⟩
        case measure => simp [intOf]; omega
      · have h0' : (es[k] != 0) = true := by simp [h0]
        have H0 := Lib.hid h0
        clear h0
        go_wp2
        go_ret
        exact ⟨by rw [HF.out, HD.out]; simp [firstE, H0.out], rfl⟩
    · go_wp2
      go_ret
      exact ⟨by rw [HF.out, List.drop_of_length_le (by omega)]; rfl, rfl⟩
theorem bcell {W w1 : World} (hb : Below W.heap.size W w1) : (∀ b o, b < W.heap.size → w1.cell? ⟨b, o, none⟩ = W.cell? ⟨b, o, none⟩) ∧ (∀ b o, b < W.heap.size → w1.frozen? ⟨b, o, none⟩ = W.frozen? ⟨b, o, none⟩) :=
  ⟨fun b o h => hb.cell (p := ⟨b, o, none⟩) h, fun b o h => hb.frozen (p := ⟨b, o, none⟩) h⟩

theorem first_list (es : List Int) (w : World) (hlen : es.length ≤ 100) :
    Calls Tryd.prog 31 #[.slice (some ⟨w.heap.size, 0, none⟩) es.length es.length] (w.alloc (.cells (es.map (Value.int .i64)).toArray 26)) fun e w' => e = .returned (.int .i64 (firstE es)) ∧ w.alloc (.cells (es.map (Value.int .i64)).toArray 26) = w' :=
  first_any _ _ es _ hlen fun k hk => by simp [hk]
theorem stringErr_any (s : ByteArray) (w : World) (_hs : s.size ≤ maxLen) :
    Calls Tryd.prog 32 #[.string s] w fun e w' => e = .returned (.int .i64 (strE s)) ∧ w = w' := by
  unfold maxLen at _hs
  go_enter Tryd.func32, Tryd.ntmps32
  go_wp2_with (go_at_call 44; refine (unless_any _ _ _).mono ?_; rintro e w' ⟨rfl, rfl⟩)
  go_ret
  exact ⟨rfl, rfl⟩

theorem countErr_any (n : Int) (w : World) :
    Calls Tryd.prog 37 #[.int .i64 n] w fun e w' => e = .returned (.int .i64 (cntE n)) ∧ w = w' := by
  go_enter Tryd.func37, Tryd.ntmps37
  go_wp2_with (first | (go_at_call 44; refine (unless_any _ _ _).mono ?_; rintro e w' ⟨rfl, rfl⟩) | (go_at_call 38; refine (within_any _ _ _ _).mono ?_; rintro e w' ⟨rfl, rfl⟩))
  go_ret
  exact ⟨rfl, rfl⟩

theorem limit_any (n : Int) (w : World) (h0 : 0 ≤ n) (h7 : n ≤ 7) :
    Calls Tryd.prog 39 #[.int .i64 n] w fun e w' => e = .returned (.int .i64 (256 ^ n.toNat)) ∧ w = w' := by
  have : n = 0 ∨ n = 1 ∨ n = 2 ∨ n = 3 ∨ n = 4 ∨ n = 5 ∨ n = 6 ∨ n = 7 := by omega
  rcases this with rfl | rfl | rfl | rfl | rfl | rfl | rfl | rfl
  all_goals
    go_enter Tryd.func39, Tryd.ntmps39
    go_wp2
    go_ret
    exact ⟨rfl, rfl⟩

theorem Within_any (n lo hi : Int) (w : World) :
    Calls Tryd.prog 52 #[.int .i64 n, .int .i64 lo, .int .i64 hi] w fun e w' => e = .returned (.bool (inB n lo hi)) ∧ w = w' := by
  by_cases h : lo ≤ n
  · go_enter Tryd.func52, Tryd.ntmps52
    go_wp2
    go_ret
    exact ⟨by simp [inB, h], rfl⟩
  · go_enter Tryd.func52, Tryd.ntmps52
    go_wp2
    go_ret
    exact ⟨by simp [inB]; omega, rfl⟩

theorem StringErr_any (s : ByteArray) (w : World) (_hs : s.size ≤ maxLen) :
    Calls Tryd.prog 35 #[.string s] w fun e w' => e = .returned (.int .i64 (strE s)) ∧ w = w' := by
  unfold maxLen at _hs
  by_cases h : (200000 : Int) < s.size
  · go_enter Tryd.func35, Tryd.ntmps35
    go_wp2
    go_ret
    have e : strE s = 8 := (strE_cases s).resolve_left (fun h' => by have := strE_zero.1 h'; omega)
    exact ⟨retI e.symm, rfl⟩
  · go_enter Tryd.func35, Tryd.ntmps35
    go_wp2
    go_ret
    have e : strE s = 0 := strE_zero.2 (by omega)
    exact ⟨retI e.symm, rfl⟩

theorem Power_any (n : Int) (w : World) (h0 : 0 ≤ n) (h7 : n ≤ 7) :
    Calls Tryd.prog 67 #[.int .i64 (8 * n)] w fun e w' => e = .returned (.int .i64 (256 ^ n.toNat)) ∧ w = w' := by
  have : n = 0 ∨ n = 1 ∨ n = 2 ∨ n = 3 ∨ n = 4 ∨ n = 5 ∨ n = 6 ∨ n = 7 := by omega
  rcases this with rfl | rfl | rfl | rfl | rfl | rfl | rfl | rfl
  all_goals
    go_enter Tryd.func67, Tryd.ntmps67
    go_wp2
    go_ret
    exact ⟨rfl, rfl⟩

theorem power256_any (n : Int) (w : World) (h0 : 0 ≤ n) (h7 : n ≤ 7) :
    Calls Tryd.prog 53 #[.int .i64 n] w fun e w' => e = .returned (.int .i64 (256 ^ n.toNat)) ∧ w = w' := by
  go_enter Tryd.func53, Tryd.ntmps53
  go_wp2_with (go_at_call 67; refine (Power_any _ _ h0 h7).mono ?_; rintro e w' ⟨rfl, rfl⟩)
  go_ret
  exact ⟨rfl, rfl⟩

theorem SumOf1_any (a c : Int) (w : World) (h0 : 0 ≤ a) (h1 : a < 2147483648) (h2 : 0 ≤ c) (h3 : c < 256) :
    Calls Tryd.prog 41 #[.int .i64 a, .int .i64 c] w fun e w' => e = .returned (.int .i64 (sumStep a c)) ∧ w = w' := by
  have hb := rot_eq a h0 h1
  obtain ⟨x, hx⟩ : ∃ x, x = a * 2 % 2147483648 + a / 1073741824 := ⟨_, rfl⟩
  rw [← hx] at hb
  have hx0 : 0 ≤ x := by omega
  have hx1 : x < 4294967296 := by omega
  have HX := Lib.hid hx
  clear hx
  go_enter Tryd.func41, Tryd.ntmps41
  go_wp2
  go_ret
  exact ⟨retI (by rw [HX.out]; rfl), rfl⟩

theorem HashOf1_any (a c : Int) (w : World) (h0 : 0 ≤ a) (h1 : a < 1000003) (h2 : 0 ≤ c) (h3 : c < 256) :
    Calls Tryd.prog 42 #[.int .i64 a, .int .i64 c] w fun e w' => e = .returned (.int .i64 (hashStep a c)) ∧ w = w' := by
  go_enter Tryd.func42, Tryd.ntmps42
  go_wp2
  go_ret
  exact ⟨rfl, rfl⟩


theorem number_any (s : ByteArray) (w : World) (hs : s.size ≤ 7) :
    Calls Tryd.prog 57 #[.string s] w fun e w' => e = .returned (.int .i64 (num (bl s))) ∧ w = w' := by
  go_enter Tryd.func57, Tryd.ntmps57
  go_wp2
  go_loop [3, 4] (fun n i => ∃ (k : Nat), k ≤ s.size ∧ i = .int .i64 ((k : Int) - 1) ∧ n = .int .i64 (num ((bl s).drop k))) (fun _ i => (intOf i + 1).toNat)
  case atStart => exact ⟨s.size, Nat.le_refl _, rfl, by rw [List.drop_of_length_le (by rw [bl_length]; omega)]; rfl⟩
  case round =>
    obtain ⟨k, hk, rfl, rfl⟩ := hrel
    by_cases hlt : 1 ≤ k
    · obtain ⟨j, rfl⟩ : ∃ j, k = j + 1 := ⟨k - 1, by omega⟩
      have hj : j < s.size := by omega
      have hc : s[j].toNat < 256 := s[j].toNat_lt
      have hm0 := (num_bound ((bl s).drop (j + 1))).1
      have hm2 : num ((bl s).drop (j + 1)) < 281474976710656 := num_lt6 _ (by rw [List.length_drop, bl_length]; omega)
      have hb := or_byte _ s[j].toNat hm0 hm2 (by omega) (by omega)
      have hn : num ((bl s).drop j) = s[j].toNat + 256 * num ((bl s).drop (j + 1)) := by rw [drop_bl s j hj]; rfl
      have HN := Lib.hid hn
      clear hn
      go_wp2
      go_round
      case rel => exact ⟨j, by omega, rfl, by rw [HN.out]; go_num⟩
      case measure => simp [intOf]
    · go_wp2
      go_ret
      obtain rfl : k = 0 := by omega
      exact ⟨rfl, rfl⟩

end Go.Proofs.YtiomfkgbaemmkaaDoor
