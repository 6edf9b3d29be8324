/-
  Chapter 20: plain words: the reference's way of reading is the program's. No program in sight.
-/
import Derived.Test.YtmlilplbdpjfcaaGreatDoorRgPA
namespace Go.Proofs.YtmlilplbdpjfcaaGreatDoor
set_option linter.unusedVariables false
set_option linter.unusedSimpArgs false
open Go.RowKit
theorem nAt_app (x y z : List UInt8) : nAt (x ++ (y ++ z)) x.length y.length = num y := by
 unfold nAt; rw [List.drop_left, List.take_left]
theorem pgH_read (q u s : Int) (c : List UInt8) : (pgH q u s c).take 4 = [82, 67, 82, 68] ∧ ((pgH q u s c).drop 4).take 4 = zerosL 4 ∧ nAt (pgH q u s c) 8 4 = num (lit q 4) ∧ nAt (pgH q u s c) 12 2 = num (lit u 2) ∧
 nAt (pgH q u s c) 14 4 = num (lit s 4) ∧ ((pgH q u s c).drop 18).take 46 = zerosL 46 ∧ (pgH q u s c).drop 64 = c := by
 have e1 : pgH q u s c = ([82, 67, 82, 68] ++ zerosL 4) ++ (lit q 4 ++ (lit u 2 ++ (lit s 4 ++ (zerosL 46 ++ c)))) := by unfold pgH; simp only [List.append_assoc]
 have e2 : pgH q u s c = ([82, 67, 82, 68] ++ (zerosL 4 ++ lit q 4)) ++ (lit u 2 ++ (lit s 4 ++ (zerosL 46 ++ c))) := by unfold pgH; simp only [List.append_assoc]
 have e3 : pgH q u s c = ([82, 67, 82, 68] ++ (zerosL 4 ++ (lit q 4 ++ lit u 2))) ++ (lit s 4 ++ (zerosL 46 ++ c)) := by unfold pgH; simp only [List.append_assoc]
 have e4 : pgH q u s c = ([82, 67, 82, 68] ++ (zerosL 4 ++ (lit q 4 ++ (lit u 2 ++ lit s 4)))) ++ (zerosL 46 ++ c) := by unfold pgH; simp only [List.append_assoc]
 have e5 : pgH q u s c = ([82, 67, 82, 68] ++ (zerosL 4 ++ (lit q 4 ++ (lit u 2 ++ (lit s 4 ++ zerosL 46))))) ++ c := by unfold pgH; simp only [List.append_assoc]
 refine ⟨rfl, ?_, ?_, ?_, ?_, ?_, ?_⟩
 · show (zerosL 4 ++ _ : List UInt8).take 4 = _
   rw [List.take_left' (zerosL_length 4)]
 · have := nAt_app ([82, 67, 82, 68] ++ zerosL 4) (lit q 4) (lit u 2 ++ (lit s 4 ++ (zerosL 46 ++ c)))
   rw [← e1, lit_length] at this
   exact this
 · have := nAt_app ([82, 67, 82, 68] ++ (zerosL 4 ++ lit q 4)) (lit u 2) (lit s 4 ++ (zerosL 46 ++ c))
   rw [← e2, lit_length] at this
   exact this
 · have := nAt_app ([82, 67, 82, 68] ++ (zerosL 4 ++ (lit q 4 ++ lit u 2))) (lit s 4) (zerosL 46 ++ c)
   rw [← e3, lit_length] at this
   exact this
 · rw [e4, List.drop_left' (by simp [lit_length, zerosL_length]), List.take_left' (zerosL_length 46)]
 · rw [e5, List.drop_left' (by simp [lit_length, zerosL_length])]
theorem pgH_zero (q u s : Int) (c : List UInt8) (i : Nat) (h1 : 18 ≤ i) (h2 : i < 64) : (pgH q u s c).getD i 0 = 0 := by
 have e4 : pgH q u s c = ([82, 67, 82, 68] ++ (zerosL 4 ++ (lit q 4 ++ (lit u 2 ++ lit s 4)))) ++ (zerosL 46 ++ c) := by unfold pgH; simp only [List.append_assoc]
 have hl : ([82, 67, 82, 68] ++ (zerosL 4 ++ (lit q 4 ++ (lit u 2 ++ lit s 4))) : List UInt8).length = 18 := by simp [lit_length, zerosL_length]
 rw [e4, List.getD_eq_getElem?_getD, List.getElem?_append_right (by omega), hl, List.getElem?_append_left (by rw [zerosL_length]; omega), ← List.getD_eq_getElem?_getD, zeros_getD]
theorem blkL_length {s : List UInt8} {pg k : Nat} (hs : s.length = 512 * pg) (hk : k < pg) : (blkL s k).length = 512 := by
 unfold blkL
 rw [List.length_take, List.length_drop]
 have : 512 * k + 512 ≤ 512 * pg := by omega
 omega
theorem room_lt {q pg : Nat} (h : 4 ≤ pg) : 2 + q % (pg - 2) < pg := by
 have := Nat.mod_lt q (show 0 < pg - 2 by omega)
 omega
theorem by_prefix {s : List UInt8} {pg : Nat} {top q : Int} : ∀ (f c at' : Nat) (l : List UInt8), byIn s pg top q f c at' = some l → l.length = c → ∀ d, d ≤ c → byIn s pg top q f d at' = some (l.take d)
 | f, c, at', l, h, hl, 0, _ => by cases f <;> simp [byIn]
 | 0, 0, _, _, _, _, d + 1, hd => by omega
 | 0, c + 1, at', l, h, _, d + 1, _ => by simp [byIn] at h
 | f + 1, 0, _, _, _, _, d + 1, hd => by omega
 | f + 1, c + 1, at', l, h, hl, d + 1, hd => by
  unfold byIn at h ⊢
  cases hp : pgIn s pg top (at' / 448) with
  | none => rw [hp] at h; simp at h
  | some x =>
   obtain ⟨q', b⟩ := x
   rw [hp] at h
   simp only at h ⊢
   split at h
   · cases h
   · rename_i hc
     have hc' : q' = q ∧ at' % 448 + min (c + 1) (448 - at' % 448) ≤ b.length := ⟨Classical.not_not.1 fun h => hc (.inl h), Nat.le_of_not_lt fun h => hc (.inr h)⟩
     rw [if_neg (fun h => h.elim (fun h => h hc'.1) (fun h => by have := hc'.2; omega))]
     rw [Option.map_eq_some_iff] at h
     obtain ⟨m, hm, rfl⟩ := h
     have hml : ((b.drop (at' % 448)).take (min (c + 1) (448 - at' % 448))).length = min (c + 1) (448 - at' % 448) := by
      rw [List.length_take, List.length_drop]; have := hc'.2; omega
     rw [List.length_append, hml] at hl
     by_cases hk : d + 1 ≤ 448 - at' % 448
     · rw [Nat.min_eq_left hk, show d + 1 - (d + 1) = 0 by omega]
       have : byIn s pg top q f 0 (at' + (d + 1)) = some [] := by cases f <;> rfl
       rw [this, Option.map_some, List.append_nil, List.take_append_of_le_length (by rw [hml]; omega), List.take_take, Nat.min_eq_left (by omega)]
     · have e : min (d + 1) (448 - at' % 448) = min (c + 1) (448 - at' % 448) := by omega
       rw [e, by_prefix f _ _ m hm (by omega) (d + 1 - min (c + 1) (448 - at' % 448)) (by omega), Option.map_some]
       rw [List.take_append, hml, List.take_of_length_le (l := (b.drop (at' % 448)).take (min (c + 1) (448 - at' % 448))) (by rw [hml]; omega)]
theorem by_length {s : List UInt8} {pg : Nat} {top q : Int} : ∀ (f c at' : Nat) (l : List UInt8), byIn s pg top q f c at' = some l → l.length = c
 | f, 0, at', l, h => by
  have : byIn s pg top q f 0 at' = some [] := by cases f <;> rfl
  rw [this] at h; cases h; rfl
 | 0, c + 1, at', l, h => by simp [byIn] at h
 | f + 1, c + 1, at', l, h => by
  unfold byIn at h
  cases hp : pgIn s pg top (at' / 448) with
  | none => rw [hp] at h; simp at h
  | some x =>
   obtain ⟨q', b⟩ := x
   rw [hp] at h
   simp only at h
   split at h
   · cases h
   · rename_i hc
     have hc' : at' % 448 + min (c + 1) (448 - at' % 448) ≤ b.length := Nat.le_of_not_lt fun h => hc (.inr h)
     rw [Option.map_eq_some_iff] at h
     obtain ⟨m, hm, rfl⟩ := h
     rw [List.length_append, List.length_take, List.length_drop, by_length f _ _ m hm]
     omega
theorem szR_bd {n : Int} (h0 : 0 ≤ n) : 12 + n ≤ szR n ∧ szR n ≤ n + 19 ∧ 0 ≤ szR n ∧ szR n % 8 = 0 := by unfold szR; omega
theorem sumL_bd : ∀ (l : List UInt8) (m : Int), 0 ≤ m → m < 2147483648 → 0 ≤ sumL l m ∧ sumL l m < 2147483648
 | [], m, h0, h1 => ⟨h0, h1⟩
 | b :: l, m, _, _ => sumL_bd l _ (sumStep_lt m b.toNat).1 (sumStep_lt m b.toNat).2
theorem nAt_take {l : List UInt8} {a c k : Nat} (h : a + c ≤ k) : nAt (l.take k) a c = nAt l a c := by
 unfold nAt; rw [List.drop_take, List.take_take, Nat.min_eq_left (by omega)]
end Go.Proofs.YtmlilplbdpjfcaaGreatDoor
