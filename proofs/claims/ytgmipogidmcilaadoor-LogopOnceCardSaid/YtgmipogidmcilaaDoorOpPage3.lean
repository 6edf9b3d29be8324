/-
  Chapter 21: pages: the number that bytes have, the number of a page.
-/
import Derived.Test.YtgmipogidmcilaaDoorOpPage2
import Derived.Test.YtgmipogidmcilaaDoorSums
namespace Go.Proofs.YtgmipogidmcilaaDoor
set_option linter.unusedVariables false
set_option linter.unusedSimpArgs false
open Go.RowKit Go.Sort

theorem num_snoc (l : List UInt8) (c : UInt8) : num (l ++ [c]) = num l + c.toNat * 256 ^ l.length := by
  induction l with
  | nil => simp [num]
  | cons b l ih =>
    simp only [List.cons_append, num, ih, List.length_cons, Int.pow_succ]
    rw [Int.mul_add]
    generalize (256 : Int) ^ l.length = P
    have : 256 * ((c.toNat : Int) * P) = (c.toNat : Int) * (P * 256) := by rw [Int.mul_comm 256, Int.mul_assoc]
    omega
theorem take_snoc' (s : ByteArray) (k : Nat) (h : k < s.size) : (bl s).take (k + 1) = (bl s).take k ++ [s[k]] := by
  rw [List.take_succ_eq_append_getElem (by rw [bl_length]; exact h)]; rfl
set_option maxRecDepth 100000 in
theorem logop_number_any (s : ByteArray) (w : World) (hs : s.size ≤ 6) :
    Calls Tryd.prog 77 #[.string s] w fun e w' => e = .returned (.int .i64 (num (bl s))) ∧ Below w.heap.size w w' := by
  have hconv := Lib.run_convert_string_bytes (P := Tryd.prog) w 9 118 5 s Tryd.underlying9 Tryd.underlying118 Tryd.underlying5
  obtain ⟨W1, hW1⟩ : ∃ W1, W1 = Lib.bytesWorld w 5 s := ⟨_, rfl⟩
  obtain ⟨cap, hcap⟩ : ∃ c, c = grownCap w s.size 0 5 := ⟨_, rfl⟩
  rw [← hW1, ← hcap] at hconv
  have hbelow : Below w.heap.size w W1 := by rw [hW1]; exact bytesWorld_below _ _ _
  have hcell : ∀ j, j < s.size → W1.cell? ⟨w.heap.size, j, none⟩ = some (.int .u8 ((bl s).getD j 0).toNat) := fun j hj => by rw [hW1]; exact Lib.bytesWorld_cell _ _ _ _ hj
  clear hW1 hcap
  have HB := Lib.hid hbelow
  have HC := Lib.hid hcell
  clear hbelow hcell
  go_enter Tryd.func77, Tryd.ntmps77
  go_wp2
  go_loop [3, 9] (fun n i => ∃ (k : Nat) (m : Int), k ≤ s.size ∧ i = .int .i64 k ∧ n = .int .i64 m ∧ 0 ≤ m ∧ m < 256 ^ k ∧ m = num ((bl s).take k)) (fun _ i => s.size - (intOf i).toNat)
  case atStart => exact ⟨0, 0, Nat.zero_le _, rfl, rfl, by omega, by decide, rfl⟩
  case round =>
    obtain ⟨k, m, hk, rfl, rfl, hm0, hm1, hf⟩ := hrel
    have HF := Lib.hid hf
    clear hf
    by_cases hlt : k < s.size
    · have hc := HC.out k hlt
      obtain ⟨b, hb⟩ : ∃ b, b = (bl s).getD k 0 := ⟨_, rfl⟩
      rw [← hb] at hc
      have e1 : b = s[k] := by rw [hb, List.getD_eq_getElem?_getD, List.getElem?_eq_getElem (by rw [bl_length]; exact hlt)]; rfl
      have E1 := Lib.hid e1
      clear e1 hb
      have hb2 : b.toNat < 256 := b.toNat_lt
      have hor := or_num m b.toNat k hm0 (by rw [two_pow_8]; exact hm1) (by omega) (by omega) (by omega)
      have hnx : m + b.toNat * 256 ^ k = num ((bl s).take (k + 1)) ∧ 0 ≤ m + b.toNat * 256 ^ k ∧ m + b.toNat * 256 ^ k < 256 ^ (k + 1) := by
        have h1 := take_snoc' s k hlt
        have h2 := num_bound ((bl s).take (k + 1))
        rw [List.length_take, bl_length, Nat.min_eq_left (by omega)] at h2
        have h3 : num ((bl s).take (k + 1)) = m + b.toNat * 256 ^ k := by
          rw [h1, num_snoc, ← HF.out, List.length_take, bl_length, Nat.min_eq_left (by omega), E1.out]
        rw [← h3]; exact ⟨rfl, h2.1, h2.2⟩
      have HN := Lib.hid hnx
      clear hnx
      have : k = 0 ∨ k = 1 ∨ k = 2 ∨ k = 3 ∨ k = 4 ∨ k = 5 := by omega
      rcases this with rfl | rfl | rfl | rfl | rfl | rfl
      · simp only [Nat.reduceMul, Int.reducePow, Nat.reduceAdd, Int.mul_one] at hor
        simp at hm1
        go_wp2
        go_round
        case rel => exact ⟨0 + 1, _, by omega, by go_num, rfl, by simpa using HN.out.2.1, by simpa using HN.out.2.2, by simpa using HN.out.1⟩
        case measure => simp [intOf]; omega
      · simp only [Nat.reduceMul, Int.reducePow, Nat.reduceAdd, Int.mul_one] at hor
        simp at hm1
        go_wp2
        go_round
        case rel => exact ⟨1 + 1, _, by omega, by go_num, rfl, by simpa using HN.out.2.1, by simpa using HN.out.2.2, by simpa using HN.out.1⟩
        case measure => simp [intOf]; omega
      · simp only [Nat.reduceMul, Int.reducePow, Nat.reduceAdd, Int.mul_one] at hor
        simp at hm1
        go_wp2
        go_round
        case rel => exact ⟨2 + 1, _, by omega, by go_num, rfl, by simpa using HN.out.2.1, by simpa using HN.out.2.2, by simpa using HN.out.1⟩
        case measure => simp [intOf]; omega
      · simp only [Nat.reduceMul, Int.reducePow, Nat.reduceAdd, Int.mul_one] at hor
        simp at hm1
        go_wp2
        go_round
        case rel => exact ⟨3 + 1, _, by omega, by go_num, rfl, by simpa using HN.out.2.1, by simpa using HN.out.2.2, by simpa using HN.out.1⟩
        case measure => simp [intOf]; omega
      · simp only [Nat.reduceMul, Int.reducePow, Nat.reduceAdd, Int.mul_one] at hor
        simp at hm1
        go_wp2
        go_round
        case rel => exact ⟨4 + 1, _, by omega, by go_num, rfl, by simpa using HN.out.2.1, by simpa using HN.out.2.2, by simpa using HN.out.1⟩
        case measure => simp [intOf]; omega
      · simp only [Nat.reduceMul, Int.reducePow, Nat.reduceAdd, Int.mul_one] at hor
        simp at hm1
        go_wp2
        go_round
        case rel => exact ⟨5 + 1, _, by omega, by go_num, rfl, by simpa using HN.out.2.1, by simpa using HN.out.2.2, by simpa using HN.out.1⟩
        case measure => simp [intOf]; omega
    · go_wp2
      go_ret
      exact ⟨retI (by rw [HF.out, List.take_of_length_le (by rw [bl_length]; omega)]), HB.out⟩

/-- the number of a protected page -/
def lsnL (p : ByteArray) : Int := num (((bl p).drop 8).take 4) % 2147483648
theorem lsnOf_any (p : ByteArray) (w : World) (hp : p.size = 512) :
    Calls Tryd.prog 74 #[.string p] w fun e w' => e = .returned (.int .i64 (lsnL p)) ∧ Below w.heap.size w w' := by
  obtain ⟨t, ht⟩ : ∃ t, t = (p.extract 8 p.size).extract 0 4 := ⟨_, rfl⟩
  have hbt : bl t = ((bl p).drop 8).take 4 := by rw [ht]; exact bl_cut p 8 4
  have hsz : t.size = 4 := by rw [← bl_length, hbt, List.length_take, List.length_drop, bl_length]; omega
  have hC := fun w => logop_number_any t w (by omega)
  have hb0 := (num_bound (bl t)).1
  have hb1 := (num_bound (bl t)).2
  rw [bl_length, hsz] at hb1
  obtain ⟨m, hm⟩ : ∃ m, m = num (bl t) := ⟨_, rfl⟩
  rw [← hm] at hC hb0 hb1
  have hmask : bits .and .i64 m 2147483647 = m % 2147483648 := bits_mask .i64 62 (by decide) (wraps_i64 62 (by decide)) 31 (by decide) m hb0 (by omega)
  have e : lsnL p = m % 2147483648 := by unfold lsnL; rw [hm, hbt]
  have E := Lib.hid e
  have HC := Lib.hid hC
  have HP := Lib.hid hp
  have hge : 12 ≤ p.size := by omega
  have hlt : p.size < 1000 := by omega
  have ht' : (p.extract 8 p.size).extract 0 4 = t := ht.symm
  clear hm e hC hb1 hsz hbt ht hp
  go_enter Tryd.func74, Tryd.ntmps74
  go_wp2_with (go_at_call 77; refine (HC.out _).mono ?_; rintro e W1 ⟨rfl, hbW1⟩; obtain ⟨hcW1, hfW1⟩ := bcell hbW1)
  go_ret
  exact ⟨retI E.out.symm, hbW1⟩

/-- a page with a number -/
def wLsn (p : ByteArray) (n : Int) : ByteArray := patS p 8 (bs (lit n 4))
theorem withLSN_any (p : ByteArray) (n : Int) (w : World) (hp : p.size = 512) (h0 : 0 ≤ n) (h1 : n < 9223372036854775808) :
    Calls Tryd.prog 75 #[.string p, .int .i64 n] w fun e w' => e = .returned (.string (wLsn p n)) ∧ Below w.heap.size w w' := by
  have h4 : (bs (lit n 4)).size = 4 := by rw [bs_size, lit_length]
  have hle : p.size ≤ 3100 := by omega
  have hle2 : 8 + (bs (lit n 4)).size ≤ p.size := by omega
  clear hp h4
  go_enter Tryd.func75, Tryd.ntmps75
  go_wp2_with (first | (go_at_call 71; refine (logop_little_any n 4 h0 h1 (by omega) _).mono ?_; rintro e W1 ⟨rfl, hbW1⟩; obtain ⟨hcW1, hfW1⟩ := bcell hbW1) | (go_at_call 80; refine (patched_any p _ 8 _ hle hle2).mono ?_; rintro e W2 ⟨rfl, hbW2⟩; obtain ⟨hcW2, hfW2⟩ := bcell hbW2))
  go_ret
  exact ⟨rfl, by (repeat (first | assumption | exact Below.refl _ _ | refine bel_drewN ?_ _ | refine bel_alloc ?_ _ | refine bel_trans ?_ (by assumption) | refine Below.trans ?_ (by assumption)))⟩
theorem refWithLSN_any (p : ByteArray) (n : Int) (w : World) (hp : p.size = 512) (h0 : 0 ≤ n) (h1 : n < 9223372036854775808) :
    Calls Tryd.prog 43 #[.string p, .int .i64 n] w fun e w' => e = .returned (.string (wLsn p n)) ∧ Below w.heap.size w w' := by
  have h4 : (bs (lit n 4)).size = 4 := by rw [bs_size, lit_length]
  have hle : p.size ≤ 1000000 := by omega
  have hle2 : 8 + (bs (lit n 4)).size ≤ p.size := by omega
  clear hp h4
  go_enter Tryd.func43, Tryd.ntmps43
  go_wp2_with (first | (go_at_call 69; refine (Little_any n 4 h0 h1 (by omega) _).mono ?_; rintro e W1 ⟨rfl, hbW1⟩; obtain ⟨hcW1, hfW1⟩ := bcell hbW1) | (go_at_call 51; refine (Patch_any p _ 8 _ hle hle2).mono ?_; rintro e W2 ⟨rfl, hbW2⟩; obtain ⟨hcW2, hfW2⟩ := bcell hbW2))
  go_ret
  exact ⟨rfl, by (repeat (first | assumption | exact Below.refl _ _ | refine bel_drewN ?_ _ | refine bel_alloc ?_ _ | refine bel_trans ?_ (by assumption) | refine Below.trans ?_ (by assumption)))⟩
theorem refLSN_any (p : ByteArray) (w : World) (hp : p.size = 512) :
    Calls Tryd.prog 41 #[.string p] w fun e w' => e = .returned (.int .i64 (lsnL p)) ∧ w = w' := by
  have hC := fun w => LittleAt_any p 8 4 (by omega) (by unfold maxLen; omega) (by omega) w
  have hb0 := (num_bound (((bl p).drop 8).take 4)).1
  obtain ⟨m, hm⟩ : ∃ m, m = num (((bl p).drop 8).take 4) := ⟨_, rfl⟩
  rw [← hm] at hC hb0
  have e : lsnL p = m % 2147483648 := by unfold lsnL; rw [hm]
  have E := Lib.hid e
  have HC := Lib.hid hC
  clear hm e hC hp
  go_enter Tryd.func41, Tryd.ntmps41
  go_wp2_with (go_at_call 76; refine (HC.out _).mono ?_; rintro e w' ⟨rfl, rfl⟩)
  go_ret
  exact ⟨retI E.out.symm, rfl⟩

/-! ### bits -/
theorem bit_num (b : UInt8) (j : Nat) (hj : j < 8) : (b.toNat : Int) / (2 ^ j : Nat) % 2 = if bitB b j then 1 else 0 := by
  have all : ∀ n : Fin 256, ∀ j : Fin 8, (n.val / 2 ^ j.val % 2) = if bitB (UInt8.ofNat n.val) j.val then 1 else 0 := by decide +kernel
  have := all ⟨b.toNat, b.toNat_lt⟩ ⟨j, hj⟩
  simp only [UInt8.ofNat_toNat] at this
  have h2 : (b.toNat : Int) / (2 ^ j : Nat) % 2 = ((b.toNat / 2 ^ j % 2 : Nat) : Int) := by rw [Int.natCast_emod, Int.natCast_ediv]; rfl
  rw [h2, this]; split <;> rfl
theorem BitAt_any (p : ByteArray) (i : Nat) (w : World) (hi : i / 8 < p.size) (hp : p.size ≤ 3100) :
    Calls Tryd.prog 66 #[.string p, .int .i64 i] w fun e w' => e = .returned (.int .i64 (if bitAt (bl p) i then 1 else 0)) ∧ Below w.heap.size w w' := by
  have hj : i % 8 < 8 := by omega
  have hbit := bit_num (p[i / 8]) (i % 8) hj
  have hget : (bl p).getD (i / 8) 0 = p[i / 8] := by rw [getD_get, List.getElem?_eq_getElem (by rw [bl_length]; exact hi)]; rfl
  have e : bitAt (bl p) i = bitB p[i / 8] (i % 8) := by unfold bitAt; rw [hget]
  rw [← e] at hbit
  have hP := fun w => Power8_any (i % 8) w (by omega)
  have hpos : 1 ≤ ((2 ^ (i % 8) : Nat) : Int) := by have : 0 < 2 ^ (i % 8) := Nat.pow_pos (by decide); omega
  obtain ⟨q, hq⟩ : ∃ q : Int, q = (2 ^ (i % 8) : Nat) := ⟨_, rfl⟩
  obtain ⟨v, hv⟩ : ∃ v : Int, v = if bitAt (bl p) i then 1 else 0 := ⟨_, rfl⟩
  rw [← hq] at hbit hP hpos
  rw [← hv] at hbit ⊢
  have HP := Lib.hid hP
  have HB := Lib.hid hbit
  have hsb : (p[i / 8].toNat : Int) < 256 := by have := p[i / 8].toNat_lt; omega
  have hd0 : 0 ≤ (p[i / 8].toNat : Int) / q := Int.ediv_nonneg (by omega) (by omega)
  have hd1 : (p[i / 8].toNat : Int) / q ≤ 255 := Int.le_trans (Int.ediv_le_self _ (by omega)) (by omega)
  have hi' : (i : Int) / 8 < (p.size : Int) := by omega
  have hi0 : 0 ≤ (i : Int) / 8 := by omega
  clear hP hq hv hget e hbit
  go_enter Tryd.func66, Tryd.ntmps66
  go_wp2
  (refine wp_region_quiet_below (by kernel_rfl) (by kernel_rfl) ?_; (repeat (go_big_quiet_step ((first | (go_at_call 85; exact Calls.reg_pure (HP.out _)))))); (with_reducible refine wpQuiet_nil ?_); intro W1 hreg; have hbW1 := below_of_reg hreg; clear hreg; obtain ⟨hcW1, hfW1⟩ := bcell hbW1)
  go_wp2
  go_ret
  exact ⟨retI HB.out, hbW1⟩
end Go.Proofs.YtgmipogidmcilaaDoor
