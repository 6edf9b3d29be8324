/-
  Chapter 20: plain words: the reference's way of reading is the program's. No program in sight.
-/
import Derived.Test.YtmlilplbdpjfcaaGreatDoorRgPA
namespace Go.Proofs.YtmlilplbdpjfcaaGreatDoor
set_option linter.unusedVariables false
set_option linter.unusedSimpArgs false
open Go.RowKit
theorem pgH_zero (q u s : Int) (c : List UInt8) (i : Nat) (h1 : 18 ≤ i) (h2 : i < 64) : (pgH q u s c).getD i 0 = 0 := by
  have e4 : pgH q u s c = ([82, 67, 82, 68] ++ (zerosL 4 ++ (lit q 4 ++ (lit u 2 ++ lit s 4)))) ++ (zerosL 46 ++ c) := by unfold pgH; simp only [List.append_assoc]
  have hl : ([82, 67, 82, 68] ++ (zerosL 4 ++ (lit q 4 ++ (lit u 2 ++ lit s 4))) : List UInt8).length = 18 := by simp [lit_length, zerosL_length]
  rw [e4, List.getD_eq_getElem?_getD, List.getElem?_append_right (by omega), hl, List.getElem?_append_left (by rw [zerosL_length]; omega), ← List.getD_eq_getElem?_getD, zeros_getD]
theorem blkL_length {s : List UInt8} {pg k : Nat} (hs : s.length = 512 * pg) (hk : k < pg) : (blkL s k).length = 512 := by
  unfold blkL
  rw [List.length_take, List.length_drop]
  have : 512 * k + 512 ≤ 512 * pg := by omega
  omega
theorem room_lt {q pg : Nat} (h : 4 ≤ pg) : 2 + q % (pg - 2) < pg := by
  have := Nat.mod_lt q (show 0 < pg - 2 by omega)
  omega
theorem by_length {s : List UInt8} {pg : Nat} {top q : Int} : ∀ (f c at' : Nat) (l : List UInt8), byIn s pg top q f c at' = some l → l.length = c
  | f, 0, at', l, h => by
    have : byIn s pg top q f 0 at' = some [] := by cases f <;> rfl
    rw [this] at h; cases h; rfl
  | 0, c + 1, at', l, h => by simp [byIn] at h
  | f + 1, c + 1, at', l, h => by
    unfold byIn at h
    cases hp : pgIn s pg top (at' / 448) with
    | none => rw [hp] at h; simp at h
    | some x =>
     obtain ⟨q', b⟩ := x
     rw [hp] at h
     simp only at h
     split at h
     · cases h
     · rename_i hc
       have hc' : at' % 448 + min (c + 1) (448 - at' % 448) ≤ b.length := Nat.le_of_not_lt fun h => hc (.inr h)
       rw [Option.map_eq_some_iff] at h
       obtain ⟨m, hm, rfl⟩ := h
       rw [List.length_append, List.length_take, List.length_drop, by_length f _ _ m hm]
       omega
theorem sumL_bd : ∀ (l : List UInt8) (m : Int), 0 ≤ m → m < 2147483648 → 0 ≤ sumL l m ∧ sumL l m < 2147483648
  | [], m, h0, h1 => ⟨h0, h1⟩
  | b :: l, m, _, _ => sumL_bd l _ (sumStep_lt m b.toNat).1 (sumStep_lt m b.toNat).2
end Go.Proofs.YtmlilplbdpjfcaaGreatDoor
