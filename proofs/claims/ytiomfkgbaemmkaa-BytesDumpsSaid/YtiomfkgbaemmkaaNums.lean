/-
  Numbers of so many bytes: little, LittleOf, SignedOf, SignedAt and the helpers' Little, LittleAt.
-/
import Derived.Test.YtiomfkgbaemmkaaTiny
import Derived.Lib.ConvBytes
namespace Go.Proofs.Ytiomfkgbaemmkaa
set_option linter.unusedVariables false
set_option linter.unusedSimpArgs false
open Go.RowKit

theorem info_u8 : (Try.prog.info? 5).map (fun i => (i.zero, i.size, i.bytes)) = some (some (.int .u8 0), 1, 1) := by kernel_rfl

/-- 'string(b)' of bytes in a row that begins a block. -/
theorem conv_row (w : World) (g cap n : Nat) (l : List UInt8) (hn : n = l.length) (hc : ∀ j (hj : j < l.length), w.cell? ⟨g, j, none⟩ = some (byteV l[j])) :
    (convert 26 9 (.slice (some ⟨g, 0, none⟩) n cap)).run Try.prog w = .ok (.string (bs l)) w := by
  subst hn
  have hc' : ∀ j (hj : j < l.length), w.cell? ((⟨g, 0, none⟩ : Addr).add j) = some (.int .u8 (l[j].toNat : Int)) := fun j hj => by
    have : (⟨g, 0, none⟩ : Addr).add j = ⟨g, j, none⟩ := by unfold Addr.add; split <;> simp_all
    rw [this]
    exact hc j hj
  exact run_convert_bytes_back (P := Try.prog) w 26 9 5 ⟨g, 0, none⟩ cap l Try.underlying26 Try.underlying5 Try.underlying9 hc'

/-- 'string(b)' of a slice of the call's own. -/
theorem conv_own {w : World} {base n : Nat} {v : Value} {l : List UInt8} (h : w.ownsRow base 5 1 v n (l.map byteV)) :
    (convert 26 9 v).run Try.prog w = .ok (.string (bs l)) w := by
  have hl := h.1
  simp only [List.length_map, Nat.mul_one] at hl
  rcases h.2 with ⟨rfl, h0⟩ | ⟨g, cap, cur, rfl, _⟩
  · have : l = [] := List.eq_nil_of_length_eq_zero (by omega)
    subst this
    exact run_convert_bytes_nil (P := Try.prog) w 26 5 Try.underlying26 Try.underlying5 0 0 9 Try.underlying9
  · refine conv_row w g cap n l hl.symm fun j hj => ?_
    rw [h.cellAt j (by omega)]
    simp [hj]

theorem little_any (n : Int) (c : Nat) (hc : c ≤ 7) (w : World) :
    Calls Try.prog 59 #[.int .i64 n, .int .i64 c] w fun e w' => e = .returned (.string (bs (lit n c))) ∧ Below w.heap.size w w' := by
  obtain ⟨i0, hi, hz0, hz1, hz2⟩ := info_parts info_u8
  go_enter Try.func59, Try.ntmps59
  go_wp2_with (at_make; refine wpList_make_full _ rfl _ _ _ rfl w.heap.size 5 i0 (.int .u8 0) 1 Try.underlying26 hi hz0 hz1 _ _ _ _ c rfl rfl rfl rfl (by rw [hz2]; omega) (by unfold maxLen; omega) (Nat.le_refl _) ?_; intro W1 hown hgrow)
  have hb1 : Below w.heap.size w W1 := (Below.refl _ _).grown hgrow (Nat.le_refl _) (by simp)
  go_loopw [11] (fun i wr => ∃ k : Nat, k ≤ c ∧ i = .int .i64 k ∧ Below w.heap.size w wr ∧ ∃ xs, wr.ownsRow w.heap.size 5 1 (.slice (some ⟨w.heap.size, 0, none⟩) c c) c xs ∧ ∀ j, j < k → xs[j]? = (lit n c)[j]?.map byteV) (fun i _ => c - (intOf i).toNat)
  case atStart => exact ⟨0, Nat.zero_le _, rfl, hb1, _, hown, fun j hj => by omega⟩
  case round =>
    obtain ⟨k, hk, rfl, hb, xs, hown2, hx⟩ := hrel
    clear hgrow hown hb1
    have HX := Lib.hid hx
    clear hx
    by_cases hlt : k < c
    · have hxl : xs.length = c := by have := hown2.1; omega
      obtain ⟨x, hcell⟩ : ∃ x, wr.cell? ⟨w.heap.size, k, none⟩ = some x := ⟨xs[k]'(by omega), by rw [hown2.cellAt k (by omega)]; simp⟩
      have hfr : wr.frozen? ⟨w.heap.size, k, none⟩ = false := hown2.frozenAt k
      have HL := Lib.hid hxl
      have HO := Lib.hid hown2
      clear hxl hown2
      go_wp2
      go_roundw
      case rel =>
        refine ⟨k + 1, by omega, by go_num, hb.setCell (by simp) _, _, (HO.out.stored k _).1, fun j hj => ?_⟩
        by_cases hjk : j = k
        · subst hjk
          rw [List.getElem?_set_self (by rw [HL.out]; exact hlt), lit_get c n j hlt, Option.map_some, byteV_mod, two_pow_8]
        · rw [List.getElem?_set_ne (by omega)]
          exact HX.out j (by omega)
      case measure => simp [intOf]; omega
    · obtain rfl : k = c := by omega
      have hxs : xs = (lit n k).map byteV := by
        apply List.ext_getElem?
        intro j
        rw [List.getElem?_map]
        by_cases hj : j < k
        · exact HX.out j hj
        · rw [List.getElem?_eq_none (by have := hown2.1; omega), List.getElem?_eq_none (by rw [lit_length]; omega)]; rfl
      subst hxs
      have hconv := conv_own hown2
      clear hown2
      go_wp2
      go_ret
      exact ⟨rfl, hb⟩

theorem LittleOf_any (n c : Int) (w : World) :
    Calls Try.prog 27 #[.int .i64 n, .int .i64 c] w fun e w' => e = .returned (.tuple #[.string (litS n c), .int .i64 (litE n c)]) ∧ Below w.heap.size w w' := by
  by_cases h1 : cntE c = 0
  · have hc := cntE_zero.1 h1
    have h1' : (cntE c != 0) = false := by rw [h1]; rfl
    obtain ⟨k, rfl⟩ := Int.eq_ofNat_of_zero_le (show 0 ≤ c by omega)
    have hp := pow256_le k (by omega)
    have hp1 := pow256_pos k
    cases h2 : inB n 0 (256 ^ k - 1)
    · have e : litE n k = 2 := by simp [litE, h1, h2, unl]
      have E := Lib.hid e
      clear h1 e
      go_enter Try.func27, Try.ntmps27
      go_wp2_with (first | (go_at_call 57; refine (countErr_any _ _).mono ?_; rintro e w' ⟨rfl, rfl⟩) | (go_at_call 58; refine (limit_any _ _ (by omega) (by omega)).mono ?_; rintro e w' ⟨rfl, rfl⟩) | (go_at_call 49; refine (within_any _ _ _ _).mono ?_; rintro e w' ⟨rfl, rfl⟩))
      go_ret2
      exact ⟨retSI (by unfold litS; rw [E.out]; rfl) E.out.symm, Below.refl _ _⟩
    · have e : litE n k = 0 := by simp [litE, h1, h2, unl]
      have E := Lib.hid e
      clear h1 e
      go_enter Try.func27, Try.ntmps27
      go_wp2_with (first | (go_at_call 57; refine (countErr_any _ _).mono ?_; rintro e w' ⟨rfl, rfl⟩) | (go_at_call 58; refine (limit_any _ _ (by omega) (by omega)).mono ?_; rintro e w' ⟨rfl, rfl⟩) | (go_at_call 49; refine (within_any _ _ _ _).mono ?_; rintro e w' ⟨rfl, rfl⟩) | (go_at_call 59; refine (little_any _ _ (by omega) _).mono ?_; rintro e W1 ⟨rfl, hbW1⟩; obtain ⟨hcW1, hfW1⟩ := bcell hbW1))
      go_ret2
      exact ⟨retSI (by unfold litS; rw [E.out]; rfl) E.out.symm, hbW1⟩
  · have h1' : (cntE c != 0) = true := by simp [h1]
    have e : litE n c = cntE c := by simp [litE, h1]
    have E := Lib.hid e
    have H1 := Lib.hid h1
    clear h1 e
    go_enter Try.func27, Try.ntmps27
    go_wp2_with (first | (go_at_call 57; refine (countErr_any _ _).mono ?_; rintro e w' ⟨rfl, rfl⟩))
    go_ret2
    exact ⟨retSI (by unfold litS; rw [E.out, if_neg H1.out]) E.out.symm, Below.refl _ _⟩

theorem SignedAt_any (s : ByteArray) (a c : Int) (w : World) (hs : s.size ≤ maxLen) :
    Calls Try.prog 34 #[.string s, .int .i64 a, .int .i64 c] w fun e w' => e = .returned (.tuple #[.int .i64 (satV s a c), .int .i64 (atE s a c)]) ∧ Below w.heap.size w w' := by
  have hz := cutS_size s a c
  have hb0 := (num_bound (bl (cutS s a c))).1
  have hb1 := num_lt6 (bl (cutS s a c)) hz
  obtain ⟨v, hv⟩ : ∃ v, v = num (bl (cutS s a c)) := ⟨_, rfl⟩
  rw [← hv] at hb0 hb1
  have hN := fun w => NumberAt_any s a c w hs
  rw [← hv] at hN
  have hsat : satV s a c = if atE s a c = 0 then sval v c else 0 := by rw [hv]; rfl
  have HS := Lib.hid hsat
  have HN := Lib.hid hN
  clear hN hv hsat
  by_cases h1 : atE s a c = 0
  · obtain ⟨_, hc1, hc6, _⟩ := atE_zero h1
    have h1' : (atE s a c != 0) = false := by rw [h1]; rfl
    have H1 := Lib.hid h1
    clear h1
    have hp := pow256_le c.toNat (by omega)
    have hp1 := pow256_pos c.toNat
    by_cases h2 : 256 ^ c.toNat / 2 ≤ v
    · go_enter Try.func34, Try.ntmps34
      go_wp2_with (first | (go_at_call 28; refine (HN.out _).mono ?_; rintro e W1 ⟨rfl, hbW1⟩; obtain ⟨hcW1, hfW1⟩ := bcell hbW1) | (go_at_call 58; refine (limit_any _ _ (by omega) (by omega)).mono ?_; rintro e w' ⟨rfl, rfl⟩))
      go_ret2
      exact ⟨retII (by rw [HS.out, if_pos H1.out, sval, if_pos h2]) H1.out.symm, hbW1⟩
    · go_enter Try.func34, Try.ntmps34
      go_wp2_with (first | (go_at_call 28; refine (HN.out _).mono ?_; rintro e W1 ⟨rfl, hbW1⟩; obtain ⟨hcW1, hfW1⟩ := bcell hbW1) | (go_at_call 58; refine (limit_any _ _ (by omega) (by omega)).mono ?_; rintro e w' ⟨rfl, rfl⟩))
      go_ret2
      exact ⟨retII (by rw [HS.out, if_pos H1.out, sval, if_neg (by omega)]) H1.out.symm, hbW1⟩
  · have h1' : (atE s a c != 0) = true := by simp [h1]
    have H1 := Lib.hid h1
    clear h1
    go_enter Try.func34, Try.ntmps34
    go_wp2_with (first | (go_at_call 28; refine (HN.out _).mono ?_; rintro e W1 ⟨rfl, hbW1⟩; obtain ⟨hcW1, hfW1⟩ := bcell hbW1))
    go_ret2
    exact ⟨retII (by rw [HS.out, if_neg H1.out]) rfl, hbW1⟩

theorem SignedValue_any (v c : Int) (w : World) (hc1 : 1 ≤ c) (hc6 : c ≤ 6) (h0 : 0 ≤ v) (h1 : v < 281474976710656) :
    Calls Try.prog 35 #[.int .i64 v, .int .i64 c] w fun e w' => e = .returned (.int .i64 (sval v c)) ∧ w = w' := by
  have hp := pow256_le c.toNat (by omega)
  have hp1 := pow256_pos c.toNat
  by_cases h2 : 256 ^ c.toNat / 2 ≤ v
  · go_enter Try.func35, Try.ntmps35
    go_wp2_with (first | (go_at_call 62; refine (power256_any _ _ (by omega) (by omega)).mono ?_; rintro e w' ⟨rfl, rfl⟩))
    go_ret
    exact ⟨retI (by rw [sval, if_pos h2]), rfl⟩
  · go_enter Try.func35, Try.ntmps35
    go_wp2_with (first | (go_at_call 62; refine (power256_any _ _ (by omega) (by omega)).mono ?_; rintro e w' ⟨rfl, rfl⟩))
    go_ret
    exact ⟨retI (by rw [sval, if_neg (by omega)]), rfl⟩

theorem SignedOf_any (n : Int) (w : World) (h1 : -2147483647 ≤ n) (h2 : n ≤ 2147483647) :
    Calls Try.prog 33 #[.int .i64 n] w fun e w' => e = .returned (.tuple #[.string (bs (lit n (scount n))), .int .i64 0]) ∧ Below w.heap.size w w' := by
  have h3 : inB n (-2147483647) 2147483647 = true := inB_true.2 ⟨h1, h2⟩
  go_enter Try.func33, Try.ntmps33
  go_wp2_with (first | (go_at_call 58; refine (limit_any _ _ (by omega) (by omega)).mono ?_; rintro e w' ⟨rfl, rfl⟩) | (go_at_call 49; refine (within_any _ _ _ _).mono ?_; rintro e w' ⟨rfl, rfl⟩))
  go_loop [4, 5] (fun k h => ∃ j : Nat, j ≤ 3 ∧ k = .int .i64 ((j : Int) + 1) ∧ h = .int .i64 (128 * 256 ^ j) ∧ j < scount n) (fun k _ => (4 - intOf k).toNat)
  case atStart => exact ⟨0, by omega, rfl, rfl, by have := scount_spec n; omega⟩
  case round =>
    obtain ⟨j, hj, rfl, rfl, hsc⟩ := hrel
    have HS := Lib.hid hsc
    clear hsc
    have hj4 : j = 0 ∨ j = 1 ∨ j = 2 ∨ j = 3 := by omega
    rcases hj4 with rfl | rfl | rfl | rfl
    · cases hb : inB n (-128) 127
      · have hs : 0 + 1 < scount n := by
          have h := HS.out
          rw [inB_false] at hb
          rcases scount_cases n with h' | h' | h' | h' <;> omega
        have HS2 := Lib.hid hs
        clear hs
        go_wp2_with (first | (go_at_call 49; refine (within_any _ _ _ _).mono ?_; rintro e w' ⟨rfl, rfl⟩))
        go_round
        case rel => exact ⟨0 + 1, by omega, rfl, rfl, HS2.out⟩
        case measure => simp [intOf]
      · have hs : scount n = 0 + 1 := by
          have h := HS.out
          rw [inB_true] at hb
          rcases scount_cases n with h' | h' | h' | h' <;> omega
        have HS2 := Lib.hid hs
        clear hs
        go_wp2_with (first | (go_at_call 49; refine (within_any _ _ _ _).mono ?_; rintro e w' ⟨rfl, rfl⟩) | (go_at_call 59; refine (little_any n (0 + 1) (by omega) _).mono ?_; rintro e W1 ⟨rfl, hbW1⟩; obtain ⟨hcW1, hfW1⟩ := bcell hbW1))
        go_ret2
        exact ⟨retSI (by rw [HS2.out]) rfl, hbW1⟩
    · cases hb : inB n (-32768) 32767
      · have hs : 1 + 1 < scount n := by
          have h := HS.out
          rw [inB_false] at hb
          rcases scount_cases n with h' | h' | h' | h' <;> omega
        have HS2 := Lib.hid hs
        clear hs
        go_wp2_with (first | (go_at_call 49; refine (within_any _ _ _ _).mono ?_; rintro e w' ⟨rfl, rfl⟩))
        go_round
        case rel => exact ⟨1 + 1, by omega, rfl, rfl, HS2.out⟩
        case measure => simp [intOf]
      · have hs : scount n = 1 + 1 := by
          have h := HS.out
          rw [inB_true] at hb
          rcases scount_cases n with h' | h' | h' | h' <;> omega
        have HS2 := Lib.hid hs
        clear hs
        go_wp2_with (first | (go_at_call 49; refine (within_any _ _ _ _).mono ?_; rintro e w' ⟨rfl, rfl⟩) | (go_at_call 59; refine (little_any n (1 + 1) (by omega) _).mono ?_; rintro e W1 ⟨rfl, hbW1⟩; obtain ⟨hcW1, hfW1⟩ := bcell hbW1))
        go_ret2
        exact ⟨retSI (by rw [HS2.out]) rfl, hbW1⟩
    · cases hb : inB n (-8388608) 8388607
      · have hs : 2 + 1 < scount n := by
          have h := HS.out
          rw [inB_false] at hb
          rcases scount_cases n with h' | h' | h' | h' <;> omega
        have HS2 := Lib.hid hs
        clear hs
        go_wp2_with (first | (go_at_call 49; refine (within_any _ _ _ _).mono ?_; rintro e w' ⟨rfl, rfl⟩))
        go_round
        case rel => exact ⟨2 + 1, by omega, rfl, rfl, HS2.out⟩
        case measure => simp [intOf]
      · have hs : scount n = 2 + 1 := by
          have h := HS.out
          rw [inB_true] at hb
          rcases scount_cases n with h' | h' | h' | h' <;> omega
        have HS2 := Lib.hid hs
        clear hs
        go_wp2_with (first | (go_at_call 49; refine (within_any _ _ _ _).mono ?_; rintro e w' ⟨rfl, rfl⟩) | (go_at_call 59; refine (little_any n (2 + 1) (by omega) _).mono ?_; rintro e W1 ⟨rfl, hbW1⟩; obtain ⟨hcW1, hfW1⟩ := bcell hbW1))
        go_ret2
        exact ⟨retSI (by rw [HS2.out]) rfl, hbW1⟩
    · have hb : inB n (-2147483648) 2147483647 = true := inB_true.2 ⟨by omega, h2⟩
      have hs : scount n = 4 := by have h := HS.out; have := scount_spec n; omega
      have HS2 := Lib.hid hs
      clear hs
      go_wp2_with (first | (go_at_call 49; refine (within_any _ _ _ _).mono ?_; rintro e w' ⟨rfl, rfl⟩) | (go_at_call 59; refine (little_any n 4 (by omega) _).mono ?_; rintro e W1 ⟨rfl, hbW1⟩; obtain ⟨hcW1, hfW1⟩ := bcell hbW1))
      go_ret2
      exact ⟨retSI (by rw [HS2.out]) rfl, hbW1⟩

theorem SignedOf_out (n : Int) (w : World) (h : inB n (-2147483647) 2147483647 = false) :
    Calls Try.prog 33 #[.int .i64 n] w fun e w' => e = .returned (.tuple #[.string ⟨#[]⟩, .int .i64 2]) ∧ w = w' := by
  go_enter Try.func33, Try.ntmps33
  go_wp2_with (first | (go_at_call 49; refine (within_any _ _ _ _).mono ?_; rintro e w' ⟨rfl, rfl⟩))
  go_ret2
  exact ⟨rfl, rfl⟩

theorem Little_any (n : Int) (c : Nat) (hn : 0 ≤ n) (hn2 : n < 9223372036854775808) (hc : c ≤ 1000) (w : World) :
    Calls Try.prog 32 #[.int .i64 n, .int .i64 c] w fun e w' => e = .returned (.string (bs (lit n c))) ∧ Below w.heap.size w w' := by
  obtain ⟨i0, hi, hz0, hz1, hz2⟩ := info_parts info_u8
  go_enter Try.func32, Try.ntmps32
  go_wp2
  go_loopw [0, 5, 6] (fun m v i wr => ∃ k : Nat, k ≤ c ∧ i = .int .i64 k ∧ Below w.heap.size w wr ∧ (∃ q : Int, 0 ≤ q ∧ q < 9223372036854775808 ∧ m = .int .i64 q ∧ q = n / 256 ^ k) ∧ wr.ownsRow w.heap.size 5 1 v k ((lit n k).map byteV)) (fun _ _ i _ => c - (intOf i).toNat)
  case atStart => exact ⟨0, Nat.zero_le _, rfl, Below.refl _ _, ⟨n, hn, hn2, rfl, by simp⟩, World.ownsRow_nil _ _ _ _⟩
  case round =>
    obtain ⟨k, hk, rfl, hb, ⟨q, hq0, hq1, rfl, hq⟩, hown⟩ := hrel
    have HQ := Lib.hid hq
    clear hq
    by_cases hlt : k < c
    · have hbs := hb.size
      go_wp2_with (at_builtin; refine wpList_append_own _ rfl (.tmp 12) (.tmp 16) 26 rfl w.heap.size 5 i0 (.int .u8 0) 1 1 Try.underlying26 hi hz0 hz1 hz2 rfl (by decide) _ _ _ rfl (hown.alloc _) ⟨wr.heap.size, 0, none⟩ 1 1 [.int .u8 (q % 256)] rfl rfl ?c1 ?c2 ?c3 ?c4 ?c5 ?_)
      case c1 =>
        intro j u hj
        match j, hj with
        | 0, hj => simp at hj; subst hj; simp [Addr.add]
      case c2 => intro u hu; simp at hu; subst hu; rfl
      case c3 => unfold maxLen; omega
      case c4 => omega
      case c5 => simp; omega
      intro v' w1 hown' hgrow _
      have hb1 : Below w.heap.size w w1 := (hb.alloc hbs _).grown hgrow (by simp; omega) (fun g hg => (hown.lt g hg).1)
      have hown2 : w1.ownsRow w.heap.size 5 1 v' (k + 1) ((lit n (k + 1)).map byteV) := by
        rw [lit_snoc, List.map_append, List.map_cons, List.map_nil, byteV_mod, ← HQ.out]
        exact hown'
      clear hown' hgrow hown hb
      go_wp2
      go_roundw
      case rel => exact ⟨k + 1, by omega, by go_num, hb1, ⟨q / 256, by omega, by omega, rfl, by rw [HQ.out, Int.pow_succ, Int.ediv_ediv_of_nonneg (Int.le_of_lt (Int.pow_pos (by decide)))]⟩, hown2⟩
      case measure => simp [intOf]; omega
    · obtain rfl : k = c := by omega
      have hconv := conv_own hown
      clear hown
      go_wp2
      go_ret
      exact ⟨rfl, hb⟩

theorem LittleAt_any (s : ByteArray) (a c : Nat) (h1 : a + c ≤ s.size) (hs : s.size ≤ maxLen) (hc : c ≤ 6) (w : World) :
    Calls Try.prog 30 #[.string s, .int .i64 a, .int .i64 c] w fun e w' => e = .returned (.int .i64 (num (((bl s).drop a).take c))) ∧ w = w' := by
  unfold maxLen at hs
  go_enter Try.func30, Try.ntmps30
  go_wp2
  go_loop [7, 8] (fun n i => ∃ (k : Nat), k ≤ c ∧ i = .int .i64 ((k : Int) - 1) ∧ n = .int .i64 (num ((((bl s).drop a).take c).drop k))) (fun _ i => (intOf i + 1).toNat)
  case atStart => exact ⟨c, Nat.le_refl _, rfl, by rw [List.drop_of_length_le (by rw [List.length_take]; omega)]; rfl⟩
  case round =>
    obtain ⟨k, hk, rfl, rfl⟩ := hrel
    by_cases hlt : 1 ≤ k
    · obtain ⟨j, rfl⟩ : ∃ j, k = j + 1 := ⟨k - 1, by omega⟩
      have hj : a + j < s.size := by omega
      have hc : s[a + j].toNat < 256 := s[a + j].toNat_lt
      obtain ⟨L, hL⟩ : ∃ L, L = (((bl s).drop a).take c) := ⟨_, rfl⟩
      have hLl : L.length = c := by rw [hL, List.length_take, List.length_drop, bl_length]; omega
      have hget : L[j]? = some s[a + j] := by
        rw [hL, List.getElem?_take, if_pos (by omega), List.getElem?_drop]
        exact List.getElem?_eq_getElem (l := bl s) hj
      have hn : num (L.drop j) = s[a + j].toNat + 256 * num (L.drop (j + 1)) := by
        rw [List.drop_eq_getElem_cons (by omega)]
        rw [List.getElem?_eq_getElem (by omega)] at hget
        injection hget with hget
        rw [hget]; rfl
      have hm0 := (num_bound (L.drop (j + 1))).1
      have hm2 : num (L.drop (j + 1)) < 281474976710656 := num_lt6 _ (by rw [List.length_drop]; omega)
      rw [← hL]
      have HN := Lib.hid hn
      clear hn hL hLl hget
      go_wp2
      go_round
      case rel => exact ⟨j, by omega, rfl, by rw [HN.out]; go_num⟩
      case measure => simp [intOf]
    · go_wp2
      go_ret
      obtain rfl : k = 0 := by omega
      exact ⟨rfl, rfl⟩

theorem LittleErr_any (n c : Int) (w : World) :
    Calls Try.prog 31 #[.int .i64 n, .int .i64 c] w fun e w' => e = .returned (.int .i64 (litE n c)) ∧ w = w' := by
  cases h1 : inB c 1 6
  · have e : litE n c = 10 := by simp [litE, cntE, h1, unl]
    have E := Lib.hid e
    clear e
    go_enter Try.func31, Try.ntmps31
    go_wp2_with (first | (go_at_call 15; refine (Within_any _ _ _ _).mono ?_; rintro e w' ⟨rfl, rfl⟩))
    go_ret
    exact ⟨retI E.out.symm, rfl⟩
  · have hc := inB_true.1 h1
    have hp := pow256_le c.toNat (by omega)
    have hp1 := pow256_pos c.toNat
    cases h2 : inB n 0 (256 ^ c.toNat - 1)
    · have e : litE n c = 2 := by simp [litE, cntE, h1, h2, unl]
      have E := Lib.hid e
      clear e
      go_enter Try.func31, Try.ntmps31
      go_wp2_with (first | (go_at_call 15; refine (Within_any _ _ _ _).mono ?_; rintro e w' ⟨rfl, rfl⟩) | (go_at_call 62; refine (power256_any _ _ (by omega) (by omega)).mono ?_; rintro e w' ⟨rfl, rfl⟩))
      go_ret
      exact ⟨retI E.out.symm, rfl⟩
    · have e : litE n c = 0 := by simp [litE, cntE, h1, h2, unl]
      have E := Lib.hid e
      clear e
      go_enter Try.func31, Try.ntmps31
      go_wp2_with (first | (go_at_call 15; refine (Within_any _ _ _ _).mono ?_; rintro e w' ⟨rfl, rfl⟩) | (go_at_call 62; refine (power256_any _ _ (by omega) (by omega)).mono ?_; rintro e w' ⟨rfl, rfl⟩))
      go_ret
      exact ⟨retI E.out.symm, rfl⟩

theorem AtErr_any (s : ByteArray) (a c : Int) (w : World) (hs : s.size ≤ maxLen) :
    Calls Try.prog 29 #[.string s, .int .i64 a, .int .i64 c] w fun e w' => e = .returned (.int .i64 (atE s a c)) ∧ w = w' := by
  have hs' := hs
  unfold maxLen at hs'
  by_cases h0 : strE s = 0
  · have h0' : (strE s != 0) = false := by rw [h0]; rfl
    have H0 := Lib.hid h0
    clear h0
    cases h1 : inB c 1 6
    · have e : atE s a c = 10 := by simp [atE, H0.out, cntE, h1, unl]
      have E := Lib.hid e
      clear e
      go_enter Try.func29, Try.ntmps29
      go_wp2_with (first | (go_at_call 55; refine (StringErr_any _ _ hs).mono ?_; rintro e w' ⟨rfl, rfl⟩) | (go_at_call 15; refine (Within_any _ _ _ _).mono ?_; rintro e w' ⟨rfl, rfl⟩))
      go_ret
      exact ⟨retI E.out.symm, rfl⟩
    · have hc := inB_true.1 h1
      cases h2 : inB a 0 (s.size - c)
      · have e : atE s a c = 37 := by simp [atE, H0.out, cntE, h1, h2, unl]
        have E := Lib.hid e
        clear e
        go_enter Try.func29, Try.ntmps29
        go_wp2_with (first | (go_at_call 55; refine (StringErr_any _ _ hs).mono ?_; rintro e w' ⟨rfl, rfl⟩) | (go_at_call 15; refine (Within_any _ _ _ _).mono ?_; rintro e w' ⟨rfl, rfl⟩))
        go_ret
        exact ⟨retI E.out.symm, rfl⟩
      · have e : atE s a c = 0 := by simp [atE, H0.out, cntE, h1, h2, unl]
        have E := Lib.hid e
        clear e
        go_enter Try.func29, Try.ntmps29
        go_wp2_with (first | (go_at_call 55; refine (StringErr_any _ _ hs).mono ?_; rintro e w' ⟨rfl, rfl⟩) | (go_at_call 15; refine (Within_any _ _ _ _).mono ?_; rintro e w' ⟨rfl, rfl⟩))
        go_ret
        exact ⟨retI E.out.symm, rfl⟩
  · have h0' : (strE s != 0) = true := by simp [h0]
    have e : atE s a c = strE s := by simp [atE, h0]
    have E := Lib.hid e
    clear e h0
    go_enter Try.func29, Try.ntmps29
    go_wp2_with (first | (go_at_call 55; refine (StringErr_any _ _ hs).mono ?_; rintro e w' ⟨rfl, rfl⟩))
    go_ret
    exact ⟨retI E.out.symm, rfl⟩

theorem Signed_any (n : Int) (w : World) (h1 : -2147483647 ≤ n) (h2 : n ≤ 2147483647) :
    Calls Try.prog 36 #[.int .i64 n] w fun e w' => e = .returned (.string (bs (lit (n % 256 ^ scount n) (scount n)))) ∧ Below w.heap.size w w' := by
  go_enter Try.func36, Try.ntmps36
  go_wp2
  go_loop [3] (fun k => ∃ j : Nat, j ≤ 3 ∧ k = .int .i64 ((j : Int) + 1) ∧ j < scount n) (fun k => (4 - intOf k).toNat)
  case atStart => exact ⟨0, by omega, rfl, by have := scount_spec n; omega⟩
  case round =>
    obtain ⟨j, hj, rfl, hsc⟩ := hrel
    have HS := Lib.hid hsc
    clear hsc
    have hj4 : j = 0 ∨ j = 1 ∨ j = 2 ∨ j = 3 := by omega
    rcases hj4 with rfl | rfl | rfl | rfl
    · cases hb : inB n (-128) 127
      · have hs : 0 + 1 < scount n := by
          have h := HS.out
          rw [inB_false] at hb
          rcases scount_cases n with h' | h' | h' | h' <;> omega
        have HS2 := Lib.hid hs
        clear hs
        go_wp2_with (first | (go_at_call 15; refine (Within_any _ _ _ _).mono ?_; rintro e w' ⟨rfl, rfl⟩) | (go_at_call 62; refine (power256_any _ _ (by omega) (by omega)).mono ?_; rintro e w' ⟨rfl, rfl⟩))
        go_round
        case rel => exact ⟨0 + 1, by omega, rfl, HS2.out⟩
        case measure => simp [intOf]
      · have hs : scount n = 0 + 1 := by
          have h := HS.out
          rw [inB_true] at hb
          rcases scount_cases n with h' | h' | h' | h' <;> omega
        have HS2 := Lib.hid hs
        clear hs
        go_wp2_with (first | (go_at_call 15; refine (Within_any _ _ _ _).mono ?_; rintro e w' ⟨rfl, rfl⟩) | (go_at_call 62; refine (power256_any _ _ (by omega) (by omega)).mono ?_; rintro e w' ⟨rfl, rfl⟩) | (go_at_call 45; refine (Mod_any _ _ _ (by omega) (by omega) (by omega) (by omega)).mono ?_; rintro e w' ⟨rfl, rfl⟩) | (go_at_call 32; refine (Little_any _ (0 + 1) (by omega) (by omega) (by omega) _).mono ?_; rintro e W1 ⟨rfl, hbW1⟩; obtain ⟨hcW1, hfW1⟩ := bcell hbW1))
        go_ret
        exact ⟨retS (by rw [HS2.out]; rfl), hbW1⟩
    · cases hb : inB n (-32768) 32767
      · have hs : 1 + 1 < scount n := by
          have h := HS.out
          rw [inB_false] at hb
          rcases scount_cases n with h' | h' | h' | h' <;> omega
        have HS2 := Lib.hid hs
        clear hs
        go_wp2_with (first | (go_at_call 15; refine (Within_any _ _ _ _).mono ?_; rintro e w' ⟨rfl, rfl⟩) | (go_at_call 62; refine (power256_any _ _ (by omega) (by omega)).mono ?_; rintro e w' ⟨rfl, rfl⟩))
        go_round
        case rel => exact ⟨1 + 1, by omega, rfl, HS2.out⟩
        case measure => simp [intOf]
      · have hs : scount n = 1 + 1 := by
          have h := HS.out
          rw [inB_true] at hb
          rcases scount_cases n with h' | h' | h' | h' <;> omega
        have HS2 := Lib.hid hs
        clear hs
        go_wp2_with (first | (go_at_call 15; refine (Within_any _ _ _ _).mono ?_; rintro e w' ⟨rfl, rfl⟩) | (go_at_call 62; refine (power256_any _ _ (by omega) (by omega)).mono ?_; rintro e w' ⟨rfl, rfl⟩) | (go_at_call 45; refine (Mod_any _ _ _ (by omega) (by omega) (by omega) (by omega)).mono ?_; rintro e w' ⟨rfl, rfl⟩) | (go_at_call 32; refine (Little_any _ (1 + 1) (by omega) (by omega) (by omega) _).mono ?_; rintro e W1 ⟨rfl, hbW1⟩; obtain ⟨hcW1, hfW1⟩ := bcell hbW1))
        go_ret
        exact ⟨retS (by rw [HS2.out]; rfl), hbW1⟩
    · cases hb : inB n (-8388608) 8388607
      · have hs : 2 + 1 < scount n := by
          have h := HS.out
          rw [inB_false] at hb
          rcases scount_cases n with h' | h' | h' | h' <;> omega
        have HS2 := Lib.hid hs
        clear hs
        go_wp2_with (first | (go_at_call 15; refine (Within_any _ _ _ _).mono ?_; rintro e w' ⟨rfl, rfl⟩) | (go_at_call 62; refine (power256_any _ _ (by omega) (by omega)).mono ?_; rintro e w' ⟨rfl, rfl⟩))
        go_round
        case rel => exact ⟨2 + 1, by omega, rfl, HS2.out⟩
        case measure => simp [intOf]
      · have hs : scount n = 2 + 1 := by
          have h := HS.out
          rw [inB_true] at hb
          rcases scount_cases n with h' | h' | h' | h' <;> omega
        have HS2 := Lib.hid hs
        clear hs
        go_wp2_with (first | (go_at_call 15; refine (Within_any _ _ _ _).mono ?_; rintro e w' ⟨rfl, rfl⟩) | (go_at_call 62; refine (power256_any _ _ (by omega) (by omega)).mono ?_; rintro e w' ⟨rfl, rfl⟩) | (go_at_call 45; refine (Mod_any _ _ _ (by omega) (by omega) (by omega) (by omega)).mono ?_; rintro e w' ⟨rfl, rfl⟩) | (go_at_call 32; refine (Little_any _ (2 + 1) (by omega) (by omega) (by omega) _).mono ?_; rintro e W1 ⟨rfl, hbW1⟩; obtain ⟨hcW1, hfW1⟩ := bcell hbW1))
        go_ret
        exact ⟨retS (by rw [HS2.out]; rfl), hbW1⟩
    · have hb : inB n (-2147483648) 2147483647 = true := inB_true.2 ⟨by omega, h2⟩
      have hs : scount n = 4 := by have h := HS.out; have := scount_spec n; omega
      have HS2 := Lib.hid hs
      clear hs
      go_wp2_with (first | (go_at_call 15; refine (Within_any _ _ _ _).mono ?_; rintro e w' ⟨rfl, rfl⟩) | (go_at_call 62; refine (power256_any _ _ (by omega) (by omega)).mono ?_; rintro e w' ⟨rfl, rfl⟩) | (go_at_call 45; refine (Mod_any _ _ _ (by omega) (by omega) (by omega) (by omega)).mono ?_; rintro e w' ⟨rfl, rfl⟩) | (go_at_call 32; refine (Little_any _ 4 (by omega) (by omega) (by omega) _).mono ?_; rintro e W1 ⟨rfl, hbW1⟩; obtain ⟨hcW1, hfW1⟩ := bcell hbW1))
      go_ret
      exact ⟨retS (by rw [HS2.out]; rfl), hbW1⟩
end Go.Proofs.Ytiomfkgbaemmkaa
