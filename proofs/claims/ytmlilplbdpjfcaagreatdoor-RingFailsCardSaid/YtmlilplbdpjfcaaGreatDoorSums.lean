/-
  Checksums and hashes: sums, SumOf, HashOf, with the step as a closure that captures nothing.
-/
import Derived.Test.YtmlilplbdpjfcaaGreatDoorTiny
import Derived.Lib.ConvBytes
namespace Go.Proofs.YtmlilplbdpjfcaaGreatDoor
set_option linter.unusedVariables false
set_option linter.unusedSimpArgs false
open Go.RowKit
theorem bytesWorld_below (w : World) (e : TypeId) (s : ByteArray) : Below w.heap.size w (Lib.bytesWorld w e s) :=
 ⟨rfl, rfl, rfl, by rw [Lib.bytesWorld_size]; omega, fun k hk => Lib.bytesWorld_at_old w e s k hk⟩
theorem sumsSumOf_any (s : ByteArray) (w : World) (hs : s.size ≤ maxLen) (hs2 : s.size ≤ 200000) :
 Calls Tryz.prog 172 #[.string s, .int .i64 0, .func (.func 173) #[] #[]] w fun e w' => e = .returned (.tuple #[.int .i64 (sumL (bl s) 0), .int .i64 0]) ∧ Below w.heap.size w w' := by
 have h1 : (strE s != 0) = false := by rw [strE_zero.2 hs2]; rfl
 have hconv := Lib.run_convert_string_bytes (P := Tryz.prog) w 9 130 5 s Tryz.underlying9 Tryz.underlying130 Tryz.underlying5
 obtain ⟨W1, hW1⟩ : ∃ W1, W1 = Lib.bytesWorld w 5 s := ⟨_, rfl⟩
 obtain ⟨cap, hcap⟩ : ∃ c, c = grownCap w s.size 0 5 := ⟨_, rfl⟩
 rw [← hW1, ← hcap] at hconv
 have hbelow : Below w.heap.size w W1 := by rw [hW1]; exact bytesWorld_below _ _ _
 have hcell : ∀ j, j < s.size → W1.cell? ⟨w.heap.size, j, none⟩ = some (.int .u8 ((bl s).getD j 0).toNat) := fun j hj => by rw [hW1]; exact Lib.bytesWorld_cell _ _ _ _ hj
 clear hW1 hcap
 have HB := Lib.hid hbelow
 have HC := Lib.hid hcell
 clear hbelow hcell
 have hs' := hs
 unfold maxLen at hs'
 go_enter Tryz.func172, Tryz.ntmps172
 go_wp2_with (go_at_call 179; refine (stringErr_any _ _ hs).mono ?_; rintro e w' ⟨rfl, rfl⟩)
 go_loop [1, 19] (fun n i => ∃ (k : Nat) (m : Int), k ≤ s.size ∧ i = .int .i64 k ∧ n = .int .i64 m ∧ 0 ≤ m ∧ m < 2147483648 ∧ sumL (bl s) 0 = sumL ((bl s).drop k) m) (fun _ i => s.size - (intOf i).toNat)
 case atStart => exact ⟨0, _, Nat.zero_le _, rfl, rfl, by omega, by omega, rfl⟩
 case round =>
  obtain ⟨k, m, hk, rfl, rfl, hm0, hm1, hf⟩ := hrel
  have HF := Lib.hid hf
  clear hf
  by_cases hlt : k < s.size
  · have hc := HC.out k hlt
    obtain ⟨b, hb⟩ : ∃ b, b = (bl s).getD k 0 := ⟨_, rfl⟩
    rw [← hb] at hc
    have e1 : b = s[k] := by rw [hb, List.getD_eq_getElem?_getD, List.getElem?_eq_getElem (by rw [bl_length]; exact hlt)]; rfl
    have E1 := Lib.hid e1
    clear e1 hb
    have hb2 : b.toNat < 256 := b.toNat_lt
    go_wp2_with (go_at_call 173; refine (SumOf1_any _ _ _ (by omega) (by omega) (by omega) (by omega)).mono ?_; rintro e w' ⟨rfl, rfl⟩)
    go_round
    case rel => exact ⟨k + 1, _, by omega, by go_num, rfl, (sumStep_lt _ _).1, (sumStep_lt _ _).2, by rw [HF.out, sumL_step s k hlt, E1.out]⟩
    case measure => simp [intOf]; omega
  · go_wp2
    go_ret2
    exact ⟨retII (by rw [HF.out, List.drop_of_length_le (by rw [bl_length]; omega)]; rfl) rfl, HB.out⟩
theorem SumOf_any (s : ByteArray) (w : World) (hs : s.size ≤ maxLen) (hs2 : s.size ≤ 200000) :
 Calls Tryz.prog 157 #[.string s] w fun e w' => e = .returned (.tuple #[.int .i64 (sumL (bl s) 0), .int .i64 0]) ∧ Below w.heap.size w w' := by
 go_enter Tryz.func157, Tryz.ntmps157
 go_wp2_with (go_at_call 172; refine (sumsSumOf_any _ _ hs hs2).mono ?_; rintro e W1 ⟨rfl, hbW1⟩; obtain ⟨hcW1, hfW1⟩ := bcell hbW1)
 go_ret2
 exact ⟨rfl, hbW1⟩
end Go.Proofs.YtmlilplbdpjfcaaGreatDoor
