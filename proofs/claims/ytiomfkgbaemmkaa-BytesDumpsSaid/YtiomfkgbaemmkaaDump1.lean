/-
  Chapter 1: digits and numbers of dumps.
-/
import Derived.Test.YtiomfkgbaemmkaaDumpP
import Derived.Test.YtiomfkgbaemmkaaNums
import Derived.Test.YtiomfkgbaemmkaaShelf
namespace Go.Proofs.Ytiomfkgbaemmkaa
set_option linter.unusedVariables false
set_option linter.unusedSimpArgs false
open Go.RowKit

theorem digs_ext (d : Nat) (h : d < 16) : (⟨#[48, 49, 50, 51, 52, 53, 54, 55, 56, 57, 97, 98, 99, 100, 101, 102]⟩ : ByteArray).extract d (d + 1) = bs [hexD d] := by
  apply bl_inj
  rw [bl_extract]
  revert d
  decide
theorem Hex_any (n c : Nat) (w : World) (hc : c ≤ 4) (hn : n < 1099511627776) :
    Calls Try.prog 69 #[.int .i64 n, .int .i64 c] w fun e w' => e = .returned (.string (bs (hexN c n))) ∧ w = w' := by
  go_enter Try.func69, Try.ntmps69
  go_wp2
  go_loop [0, 5, 6] (fun m s i => ∃ k : Nat, k ≤ c ∧ i = .int .i64 k ∧ m = .int .i64 ((n / 16 ^ k : Nat) : Int) ∧ s = .string (bs (hexN k n))) (fun _ _ i => c - (intOf i).toNat)
  case atStart => exact ⟨0, Nat.zero_le _, rfl, by simp, rfl⟩
  case round =>
    obtain ⟨k, hk, rfl, rfl, rfl⟩ := hrel
    obtain ⟨m, hm⟩ : ∃ m, m = n / 16 ^ k := ⟨_, rfl⟩
    have hmb : m ≤ n := by rw [hm]; exact Nat.div_le_self _ _
    have hs : (bs (hexN k n)).size = k := by rw [bs_size, hexN_length]
    rw [← hm]
    by_cases hlt : k < c
    · have d1 : (0 : Int) ≤ (m : Int) % 16 := by omega
      have d2 : (m : Int) % 16 + 1 ≤ 16 := by omega
      have d3 : (m : Int) % 16 < 16 := by omega
      have HM := Lib.hid hm
      clear hm
      go_wp2
      go_round
      case rel =>
        refine ⟨k + 1, by omega, by go_num, ?_, ?_⟩
        · rw [Nat.pow_succ, ← Nat.div_div_eq_div_mul, ← HM.out, Int.natCast_ediv]; rfl
        · rw [digs_ext _ (Nat.mod_lt _ (by omega)), hexN_cons, ← HM.out]
          refine congrArg Value.string (bl_inj ?_)
          rw [bl_append, bl_bs, bl_bs, bl_bs]; rfl
      case measure => simp [intOf]; omega
    · obtain rfl : k = c := by omega
      go_wp2
      go_ret
      exact ⟨rfl, rfl⟩

theorem hexN_get : ∀ (c n j : Nat), j < c → (hexN c n)[c - 1 - j]? = some (hexD (n / 16 ^ j % 16))
  | 0, _, _, h => by omega
  | c + 1, n, j, h => by
    rw [hexN_cons]
    by_cases e : j = c
    · subst e
      rw [show j + 1 - 1 - j = 0 by omega]; rfl
    · rw [show c + 1 - 1 - j = (c - 1 - j) + 1 by omega, List.getElem?_cons_succ]
      exact hexN_get c n j (by omega)
theorem digs_get (d : Nat) (h : d < 16) : (⟨#[48, 49, 50, 51, 52, 53, 54, 55, 56, 57, 97, 98, 99, 100, 101, 102]⟩ : ByteArray).data[d]? = some (hexD d) := by
  revert d; decide
set_option maxHeartbeats 1000000 in
set_option maxRecDepth 20000 in
theorem hex_any (n c : Nat) (w : World) (hc : c ≤ 4) (hn : n < 1099511627776) :
    Calls Try.prog 80 #[.int .i64 n, .int .i64 c] w fun e w' => e = .returned (.string (bs (hexN c n))) ∧ Below w.heap.size w w' := by
  obtain ⟨i0, hi, hz0, hz1, hz2⟩ := info_parts info_u8
  go_enter Try.func80, Try.ntmps80
  go_wp2_with (at_make; refine wpList_make_full _ rfl _ _ _ rfl w.heap.size 5 i0 (.int .u8 0) 1 Try.underlying26 hi hz0 hz1 _ _ _ _ c rfl rfl rfl rfl (by rw [hz2]; omega) (by unfold maxLen; omega) (Nat.le_refl _) ?_; intro W1 hown hgrow)
  have hb1 : Below w.heap.size w W1 := (Below.refl _ _).grown hgrow (Nat.le_refl _) (by simp)
  go_loopw [11] (fun i wr => ∃ k : Nat, k ≤ c ∧ i = .int .i64 k ∧ Below w.heap.size w wr ∧ ∃ xs, wr.ownsRow w.heap.size 5 1 (.slice (some ⟨w.heap.size, 0, none⟩) c c) c xs ∧ ∀ j, j < k → xs[c - 1 - j]? = some (byteV (hexD (n / 16 ^ j % 16)))) (fun i _ => c - (intOf i).toNat)
  case atStart => exact ⟨0, Nat.zero_le _, rfl, hb1, _, hown, fun j hj => by omega⟩
  case round =>
    obtain ⟨k, hk, rfl, hb, xs, hown2, hx⟩ := hrel
    clear hgrow hown hb1
    have HX := Lib.hid hx
    clear hx
    by_cases hlt : k < c
    · have hxl : xs.length = c := by have := hown2.1; omega
      obtain ⟨d, hd⟩ : ∃ d, d = c - 1 - k := ⟨_, rfl⟩
      have hdc : (c : Int) - 1 - k = d := by omega
      obtain ⟨x, hcell⟩ : ∃ x, wr.cell? ⟨w.heap.size, d, none⟩ = some x := ⟨xs[d]'(by omega), by rw [hown2.cellAt d (by omega)]; simp⟩
      have hfr : wr.frozen? ⟨w.heap.size, d, none⟩ = false := hown2.frozenAt d
      have hbit : bits .and .i64 ((n : Int) / 2 ^ (4 * k)) 15 = ((n / 16 ^ k % 16 : Nat) : Int) := by
        have h2 : ((2 : Int) ^ (4 * k)) = ((16 ^ k : Nat) : Int) := by rw [Int.pow_mul]; simp
        have hle := Nat.div_le_self n (16 ^ k)
        have h3 : bits .and .i64 ((n / 16 ^ k : Nat) : Int) 15 = ((n / 16 ^ k : Nat) : Int) % 16 := bits_mask .i64 62 (by decide) (wraps_i64 62 (by decide)) 4 (by decide) _ (Int.natCast_nonneg _) (by omega)
        rw [h2, ← Int.natCast_ediv, h3, Int.natCast_emod]; rfl
      obtain ⟨m, hm⟩ : ∃ m, m = n / 16 ^ k % 16 := ⟨_, rfl⟩
      have hm16 : m < 16 := by rw [hm]; exact Nat.mod_lt _ (by omega)
      rw [← hm] at hbit
      have HL := Lib.hid hxl
      have HO := Lib.hid hown2
      have HD := Lib.hid hd
      have HM := Lib.hid hm
      have hm' : (m : Int) < 16 := by omega
      clear hm
      clear hxl hown2 hd
      go_wp2
      go_roundw
      case rel =>
        refine ⟨k + 1, by omega, by go_num, hb.setCell (by simp) _, _, (HO.out.stored d _).1, fun j hj => ?_⟩
        by_cases hjk : j = k
        · subst hjk
          rw [← HD.out, List.getElem?_set_self (by rw [HL.out]; omega), ← HM.out]
          have := digs_get m hm16
          rw [Array.getElem?_eq_getElem (by simpa using hm16)] at this
          injection this with this
          exact congrArg some (congrArg byteV this)
        · rw [List.getElem?_set_ne (by have := HD.out; omega)]
          exact HX.out j (by omega)
      case measure => simp [intOf]; omega
    · obtain rfl : k = c := by omega
      have hxs : xs = (hexN k n).map byteV := by
        apply List.ext_getElem?
        intro j
        rw [List.getElem?_map]
        by_cases hj : j < k
        · have h1 := hexN_get k n (k - 1 - j) (by omega)
          have h2 := HX.out (k - 1 - j) (by omega)
          rw [show k - 1 - (k - 1 - j) = j by omega] at h1 h2
          rw [h1, h2]; rfl
        · rw [List.getElem?_eq_none (by have := hown2.1; omega), List.getElem?_eq_none (by rw [hexN_length]; omega)]; rfl
      subst hxs
      have hconv := conv_own hown2
      clear hown2
      go_wp2
      go_ret
      exact ⟨rfl, hb⟩

def digI (c : UInt8) : Int := match digO c with | some n => n | none => -1
theorem digI_lt (c : UInt8) : -1 ≤ digI c ∧ digI c < 16 := by
  have all : ∀ n : Fin 256, -1 ≤ digI (UInt8.ofNat n.val) ∧ digI (UInt8.ofNat n.val) < 16 := by decide +kernel
  have := all ⟨c.toNat, c.toNat_lt⟩
  simpa using this
theorem digI_index (c : UInt8) : Lib.indexByte digsL c = digI c := by
  have all : ∀ n : Fin 256, Lib.indexByte digsL (UInt8.ofNat n.val) = digI (UInt8.ofNat n.val) := by decide +kernel
  have := all ⟨c.toNat, c.toNat_lt⟩
  simpa using this
theorem digI_hexD : ∀ n, n < 16 → digI (hexD n) = n := by decide
theorem digI_none (c : UInt8) (h : ∀ j, j < 16 → hexD j ≠ c) : digI c = -1 := by
  have all : ∀ n : Fin 256, (∀ j, j < 16 → hexD j ≠ UInt8.ofNat n.val) → digI (UInt8.ofNat n.val) = -1 := by decide +kernel
  have := all ⟨c.toNat, c.toNat_lt⟩ (by simpa using h)
  simpa using this
theorem digit_any (c : UInt8) (w : World) :
    Calls Try.prog 66 #[.int .u8 c.toNat] w fun e w' => e = .returned (.int .i64 (digI c)) ∧ w = w' := by
  have hd := digI_index c
  go_enter Try.func66, Try.ntmps66
  go_wp2_with (go_at_call 82; refine (((Try.strings_IndexByte _ _ _).mono (R' := fun e w' => e = .returned (.int .i64 (digI c)) ∧ w = w') (fun e w' ⟨h1, h2⟩ => ⟨by rw [h1, ← hd]; simp [digsL], h2.symm⟩))).mono ?_; rintro e w' ⟨rfl, rfl⟩)
  go_ret
  exact ⟨rfl, rfl⟩
theorem refdigit_any (c : UInt8) (w : World) :
    Calls Try.prog 68 #[.int .u8 c.toNat] w fun e w' => e = .returned (.int .i64 (digI c)) ∧ w = w' := by
  go_enter Try.func68, Try.ntmps68
  go_wp2
  go_loop [3] (fun i => ∃ k : Nat, k ≤ 16 ∧ i = .int .i64 k ∧ ∀ j, j < k → hexD j ≠ c) (fun i => 16 - (intOf i).toNat)
  case atStart => exact ⟨0, Nat.zero_le _, rfl, fun j hj => by omega⟩
  case round =>
    obtain ⟨k, hk, rfl, hx⟩ := hrel
    have HX := Lib.hid hx
    clear hx
    by_cases hlt : k < 16
    · have hg : ∀ h, (⟨#[48, 49, 50, 51, 52, 53, 54, 55, 56, 57, 97, 98, 99, 100, 101, 102]⟩ : ByteArray)[k]'h = hexD k := fun h => by
        have := digs_get k hlt
        rw [Array.getElem?_eq_getElem (by simpa using hlt)] at this
        injection this
      by_cases he : hexD k = c
      · have he' : (((hexD k).toNat : Int) == (c.toNat : Int)) = true := by rw [he]; simp
        have HE := Lib.hid he
        clear he
        go_wp2
        go_ret
        exact ⟨retI (by rw [← HE.out, digI_hexD k hlt]), rfl⟩
      · have he' : (((hexD k).toNat : Int) == (c.toNat : Int)) = false := by
          rw [beq_eq_false_iff_ne]; intro h; exact he (UInt8.toNat_inj.1 (by omega))
        have HE := Lib.hid he
        clear he
        go_wp2
        go_round
        case rel => exact ⟨k + 1, by omega, by go_num, fun j hj => by
          by_cases e : j = k
          · subst e; exact HE.out
          · exact HX.out j (by omega)⟩
        case measure => simp [intOf]; omega
    · obtain rfl : k = 16 := by omega
      go_wp2
      go_ret
      exact ⟨retI (digI_none c HX.out).symm, rfl⟩
end Go.Proofs.Ytiomfkgbaemmkaa
