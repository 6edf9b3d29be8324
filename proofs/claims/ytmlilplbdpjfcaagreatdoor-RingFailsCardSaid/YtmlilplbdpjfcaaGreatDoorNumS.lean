/-
  Numbers of so many bytes: little, LittleOf, SignedOf, SignedAt and the helpers' Little, LittleAt.
  Strings: Patched, PaddedTo; the helpers' Patch, Zeros; the reference's PatchErr, Padded.
-/
import Derived.Test.YtmlilplbdpjfcaaGreatDoorTiny
import Derived.Lib.ConvBytes
import Derived.Test.YtmlilplbdpjfcaaGreatDoorKitA
import Derived.Test.YtmlilplbdpjfcaaGreatDoorShelf
namespace Go.Proofs.YtmlilplbdpjfcaaGreatDoor
set_option linter.unusedVariables false
set_option linter.unusedSimpArgs false
open Go.RowKit
theorem info_u8 : (Tryz.prog.info? 5).map (fun i => (i.zero, i.size, i.bytes)) = some (some (.int .u8 0), 1, 1) := by kernel_rfl
theorem conv_row (w : World) (g cap n : Nat) (l : List UInt8) (hn : n = l.length) (hc : ∀ j (hj : j < l.length), w.cell? ⟨g, j, none⟩ = some (byteV l[j])) :
 (convert 130 9 (.slice (some ⟨g, 0, none⟩) n cap)).run Tryz.prog w = .ok (.string (bs l)) w := by
 subst hn
 have hc' : ∀ j (hj : j < l.length), w.cell? ((⟨g, 0, none⟩ : Addr).add j) = some (.int .u8 (l[j].toNat : Int)) := fun j hj => by
  have : (⟨g, 0, none⟩ : Addr).add j = ⟨g, j, none⟩ := by unfold Addr.add; split <;> simp_all
  rw [this]
  exact hc j hj
 exact run_convert_bytes_back (P := Tryz.prog) w 130 9 5 ⟨g, 0, none⟩ cap l Tryz.underlying130 Tryz.underlying5 Tryz.underlying9 hc'
theorem conv_own {w : World} {base n : Nat} {v : Value} {l : List UInt8} (h : w.ownsRow base 5 1 v n (l.map byteV)) :
 (convert 130 9 v).run Tryz.prog w = .ok (.string (bs l)) w := by
 have hl := h.1
 simp only [List.length_map, Nat.mul_one] at hl
 rcases h.2 with ⟨rfl, h0⟩ | ⟨g, cap, cur, rfl, _⟩
 · have : l = [] := List.eq_nil_of_length_eq_zero (by omega)
   subst this
   exact run_convert_bytes_nil (P := Tryz.prog) w 130 5 Tryz.underlying130 Tryz.underlying5 0 0 9 Tryz.underlying9
 · refine conv_row w g cap n l hl.symm fun j hj => ?_
   rw [h.cellAt j (by omega)]
   simp [hj]
end Go.Proofs.YtmlilplbdpjfcaaGreatDoor
namespace Go.Proofs.YtmlilplbdpjfcaaGreatDoor
set_option linter.unusedVariables false
set_option linter.unusedSimpArgs false
open Go.RowKit
theorem Patch_any (s b : ByteArray) (a : Nat) (w : World) (hs : s.size ≤ 1000000) (h1 : a + b.size ≤ s.size) :
 Calls Tryz.prog 49 #[.string s, .int .i64 a, .string b] w fun e w' => e = .returned (.string (patS s a b)) ∧ Below w.heap.size w w' := by
 go_enter Tryz.func49, Tryz.ntmps49
 go_wp2
 go_quiet (fail)
 go_wp2
 go_ret
 exact ⟨rfl, bel_drewN (Below.refl _ _) _⟩
theorem madeZeros (n : Nat) : (madeCells (Value.int .u8 0).cells (n * 1)).toList = (zerosL n).map byteV := by
 have : (Value.int .u8 0).cells = #[.int .u8 0] := rfl
 rw [this, Nat.mul_one, toList_madeCells_one]
 simp [zerosL, byteV]
theorem Zeros_any (n : Nat) (w : World) (hn : n ≤ 200000) :
 Calls Tryz.prog 56 #[.int .i64 n] w fun e w' => e = .returned (.string (bs (zerosL n))) ∧ Below w.heap.size w w' := by
 obtain ⟨i0, hi, hz0, hz1, hz2⟩ := info_parts info_u8
 have hmin : min (n : Int) 200000 = n := by omega
 have hmax : max 0 (n : Int) = n := by omega
 go_enter Tryz.func56, Tryz.ntmps56
 go_wp2_with (at_make; refine wpList_make_full _ rfl _ _ _ rfl w.heap.size 5 i0 (.int .u8 0) 1 Tryz.underlying130 hi hz0 hz1 _ _ _ _ n rfl rfl rfl rfl (by rw [hz2]; omega) (by unfold maxLen; omega) (Nat.le_refl _) ?_; intro W1 hown hgrow; rw [madeZeros] at hown; have hb1 : Below w.heap.size w W1 := (Below.refl _ _).grown hgrow (Nat.le_refl _) (by simp); have hconv := conv_own hown; clear hown hgrow)
 go_ret
 exact ⟨rfl, hb1⟩
end Go.Proofs.YtmlilplbdpjfcaaGreatDoor
