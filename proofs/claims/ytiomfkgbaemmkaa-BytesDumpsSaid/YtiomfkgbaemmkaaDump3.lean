/-
  Chapter 1: the reference's Dump.
-/
import Derived.Test.YtiomfkgbaemmkaaDump2
namespace Go.Proofs.Ytiomfkgbaemmkaa
set_option linter.unusedVariables false
set_option linter.unusedSimpArgs false
open Go.RowKit

/-- the number as the caller needs it: its name, its size -/
theorem Hex4_any (n : Nat) (w : World) (hn : n < 1099511627776) :
    Calls Try.prog 69 #[.int .i64 n, .int .i64 4] w fun e w' => (∃ H : ByteArray, e = .returned (.string H) ∧ bl H = hexN 4 n ∧ H.size = 4) ∧ w = w' :=
  (Hex_any n 4 w (by omega) hn).mono fun e w' ⟨h1, h2⟩ => ⟨⟨_, h1, rfl, by rw [bs_size, hexN_length]⟩, h2⟩
theorem Hex2_any (n : Nat) (w : World) (hn : n < 1099511627776) :
    Calls Try.prog 69 #[.int .i64 n, .int .i64 2] w fun e w' => (∃ H : ByteArray, e = .returned (.string H) ∧ bl H = hexN 2 n ∧ H.size = 2) ∧ w = w' :=
  (Hex_any n 2 w (by omega) hn).mono fun e w' ⟨h1, h2⟩ => ⟨⟨_, h1, rfl, by rw [bs_size, hexN_length]⟩, h2⟩

theorem take16 (s : ByteArray) (k : Nat) : bl (s.extract (16 * k) (min (16 * k + 16) s.size)) = ((bl s).drop (16 * k)).take 16 := by
  rw [bl_extract, List.drop_take, ← bl_length, List.take_eq_take_iff, List.length_drop]
  omega

set_option maxHeartbeats 1000000 in
theorem refDump_any (s : ByteArray) (w : World) (hs : s.size ≤ 1000000) :
    Calls Try.prog 40 #[.string s] w fun e w' => e = .returned (.string (bs (dumpL (bl s)))) ∧ w = w' := by
  go_enter Try.func40, Try.ntmps40
  go_wp2
  go_loop [3, 4] (fun out at' => ∃ (k a : Nat) (O : ByteArray), a = 16 * k ∧ a ≤ s.size + 15 ∧ at' = .int .i64 (a : Int) ∧ out = .string O ∧ bl O = dumpB (bl s) k) (fun _ at' => s.size + 16 - (intOf at').toNat)
  case atStart => exact ⟨0, 0, ⟨#[]⟩, by omega, by omega, rfl, rfl, rfl⟩
  case round =>
    obtain ⟨k, a, O, ha, hk, rfl, rfl, hO⟩ := hrel
    have hOs : O.size ≤ 72 * k := by rw [← bl_length, hO]; exact dumpB_length _ _
    by_cases hlt : a < s.size
    · obtain ⟨X, hX⟩ : ∃ X, X = s.extract a (min ((a : Int) + 16) s.size).toNat := ⟨_, rfl⟩
      have hmn : (min ((a : Int) + 16) s.size).toNat = min (a + 16) s.size := by omega
      have hXb := take16 s k
      rw [← ha, ← hmn, ← hX] at hXb
      have hXs : X.size = min 16 (s.size - a) := by rw [← bl_length, hXb, List.length_take, List.length_drop, bl_length]
      have hX1 : X.size ≤ 16 := by omega
      have HXS := Lib.hid hXs
      have HXB := Lib.hid hXb
      have HO := Lib.hid hO
      have HA := Lib.hid ha
      have hXe := hX.symm
      have hk72 : 72 * k ≤ 5 * a := by omega
      clear hXs hX hXb hO ha hmn
      have H4 := Lib.hid (Hex4_any a w (by omega))
      go_wp2_with (go_at_call 69; refine H4.out.mono ?_; rintro e w' ⟨⟨H, rfl, hH, hHs⟩, rfl⟩)
      have HH := Lib.hid hH
      clear hH hXe H4
      have hsize : (O ++ H ++ ⟨#[58]⟩ : ByteArray).size = O.size + 5 := by rw [ByteArray.size_append, ByteArray.size_append, hHs]; rfl
      go_loop [3, 6, 7] (fun out sh i => ∃ (j : Nat) (O2 S2 : ByteArray), j ≤ X.size ∧ i = .int .i64 (j : Int) ∧ out = .string O2 ∧ sh = .string S2 ∧ S2.size = j ∧ O2.size = O.size + 5 + 3 * j ∧
        bl O2 = bl O ++ hexN 4 a ++ 58 :: cellsB ((bl X).take j) ∧ bl S2 = ((bl X).take j).map shown) (fun _ _ i => X.size - (intOf i).toNat)
      case atStart => exact ⟨0, _, _, Nat.zero_le _, rfl, rfl, rfl, rfl, by rw [hsize], by rw [bl_append, bl_append, HH.out]; rfl, rfl⟩
      case round =>
        obtain ⟨j, O2, S2, hj, rfl, rfl, rfl, hS2s, hO2s, hO2, hS2⟩ := hrel
        have HO2 := Lib.hid hO2
        have HS2 := Lib.hid hS2
        clear hO2 hS2 hsize
        by_cases hlt2 : j < X.size
        · have hx : ∀ h, X[j]'h = (bl X)[j]'(by rw [bl_length]; exact hlt2) := fun h => rfl
          have htk : (bl X).take (j + 1) = (bl X).take j ++ [(bl X)[j]'(by rw [bl_length]; exact hlt2)] := List.take_succ_eq_append_getElem (by rw [bl_length]; exact hlt2)
          have hex : bl (X.extract j (j + 1)) = [(bl X)[j]'(by rw [bl_length]; exact hlt2)] := by
            rw [bl_extract, htk, List.drop_append_of_le_length (by rw [List.length_take, bl_length]; omega), List.drop_of_length_le (by rw [List.length_take, bl_length]; omega)]; rfl
          have hexs : (X.extract j (j + 1)).size = 1 := by rw [← bl_length, hex]; rfl
          generalize (bl X)[j]'(by rw [bl_length]; exact hlt2) = x at *
          have HT := Lib.hid htk
          have HE := Lib.hid hex
          have H2 := Lib.hid (Hex2_any x.toNat w (by have := x.toNat_lt; omega))
          have hxl := x.toNat_lt
          clear htk hex
          cases hin : inB (x.toNat : Int) 32 126
          · go_wp2_with (first | (go_at_call 69; refine H2.out.mono ?_; rintro e w' ⟨⟨G, rfl, hG, hGs⟩, rfl⟩) | (go_at_call 15; refine (Within_any _ _ _ _).mono ?_; rintro e w' ⟨rfl, rfl⟩))
            go_round
            case rel =>
              refine ⟨j + 1, _, _, by omega, by go_num, rfl, rfl, ?_, ?_, ?_, ?_⟩
              · rw [ByteArray.size_append, hS2s]; rfl
              · rw [ByteArray.size_append, ByteArray.size_append, hGs, hO2s]; show _ + 1 + 2 = _; omega
              · rw [bl_append, bl_append, HO2.out, hG, HT.out, cellsB_snoc, List.append_assoc, List.append_assoc, List.append_assoc, List.append_assoc]; rfl
              · rw [bl_append, HS2.out, HT.out, List.map_append]; refine congrArg _ ?_; show [46] = [shown x]; unfold shown; rw [if_neg (by unfold inB at hin; simp at hin; omega)]
            case measure => simp [intOf]; omega
          · go_wp2_with (first | (go_at_call 69; refine H2.out.mono ?_; rintro e w' ⟨⟨G, rfl, hG, hGs⟩, rfl⟩) | (go_at_call 15; refine (Within_any _ _ _ _).mono ?_; rintro e w' ⟨rfl, rfl⟩))
            go_round
            case rel =>
              refine ⟨j + 1, _, _, by omega, by go_num, rfl, rfl, ?_, ?_, ?_, ?_⟩
              · rw [ByteArray.size_append, hS2s, hexs]
              · rw [ByteArray.size_append, ByteArray.size_append, hGs, hO2s]; show _ + 1 + 2 = _; omega
              · rw [bl_append, bl_append, HO2.out, hG, HT.out, cellsB_snoc, List.append_assoc, List.append_assoc, List.append_assoc, List.append_assoc]; rfl
              · rw [bl_append, HS2.out, HT.out, HE.out, List.map_append]; refine congrArg _ ?_; show [x] = [shown x]; unfold shown; rw [if_pos (by unfold inB at hin; simp at hin; omega)]
            case measure => simp [intOf]; omega
        · obtain rfl : j = X.size := by omega
          go_wp2
          go_round
          case rel =>
            refine ⟨k + 1, a + 16, _, by have := HA.out; omega, by omega, by go_num, rfl, ?_⟩
            have hL : (bl X).take X.size = bl X := by rw [← bl_length]; exact List.take_length
            have h1 := HO2.out
            have h2 := HS2.out
            rw [hL] at h1 h2
            rw [bl_append, bl_append, bl_append, h1, h2, dumpB_succ, HO.out, ← HA.out, ← HXB.out]
            simp only [rowB, rowL, List.append_assoc, List.cons_append, List.nil_append]
            rfl
          case measure => simp [intOf]; omega
    · go_wp2
      go_ret
      exact ⟨retS (bl_inj (by rw [hO, bl_bs, dumpL, show k = ((bl s).length + 15) / 16 by rw [bl_length]; omega])), rfl⟩
end Go.Proofs.Ytiomfkgbaemmkaa
