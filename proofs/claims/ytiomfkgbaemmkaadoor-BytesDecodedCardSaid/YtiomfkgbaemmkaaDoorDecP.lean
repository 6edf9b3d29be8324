/-
  Chapter 1, plain words: the values of bytes.
-/
import Derived.Test.YtiomfkgbaemmkaaDoorPlain2
namespace Go.Proofs.YtiomfkgbaemmkaaDoor
set_option linter.unusedVariables false
set_option linter.unusedSimpArgs false
open Go.RowKit

structure DV where
  n : Int
  s : ByteArray
  ns : List Int
def dv0 : DV := ⟨0, ⟨#[]⟩, []⟩
/-- so many numbers of two bytes -/
def listN (L : List UInt8) (c : Nat) : List Int := (List.range c).map fun i => num ((L.drop (2 * i)).take 2)
theorem listN_succ (L : List UInt8) (c : Nat) : listN L (c + 1) = listN L c ++ [num ((L.drop (2 * c)).take 2)] := by
  unfold listN; rw [List.range_succ, List.map_append]; rfl
theorem listN_length (L : List UInt8) (c : Nat) : (listN L c).length = c := by unfold listN; simp
/-- the value of a field, how many bytes it takes, an error -/
def decF (k z : Int) (L : List UInt8) : DV × Nat × Int :=
  if k = 2 ∨ k = 3 then
    if L.length = 0 then (dv0, 0, 37)
    else if L.length < 1 + (if k = 3 then 2 else 1) * (L.getD 0 0).toNat then (dv0, 0, 37)
    else if z < (L.getD 0 0).toNat then (dv0, 0, 8)
    else if k = 2 then (⟨0, bs ((L.drop 1).take (L.getD 0 0).toNat), []⟩, 1 + (L.getD 0 0).toNat, 0)
    else (⟨0, ⟨#[]⟩, listN (L.drop 1) (L.getD 0 0).toNat⟩, 1 + 2 * (L.getD 0 0).toNat, 0)
  else if (L.length : Int) < z then (dv0, 0, 37)
  else if k = 0 then (⟨num (L.take z.toNat), ⟨#[]⟩, []⟩, z.toNat, 0)
  else if k = 1 then (⟨0, bs (L.take z.toNat), []⟩, z.toNat, 0)
  else if (L.take z.toNat).all (· == 0) then (dv0, z.toNat, 0) else (dv0, 0, 3)
/-- all fields, what is already there, and from where on -/
def decG (L : List UInt8) : List Fld → List DV → Nat → List DV × Nat × Int
  | [], acc, a => (acc, a, 0)
  | f :: l, acc, a => if (decF f.1 f.2 (L.drop a)).2.2 ≠ 0 then ([], 0, (decF f.1 f.2 (L.drop a)).2.2) else decG L l (acc ++ [(decF f.1 f.2 (L.drop a)).1]) (a + (decF f.1 f.2 (L.drop a)).2.1)
theorem decF_len {k z : Int} {L : List UInt8} (hz : 0 ≤ z) (h : (decF k z L).2.2 = 0) : (decF k z L).2.1 ≤ L.length := by
  unfold decF at *
  by_cases h1 : k = 2 ∨ k = 3
  · rw [if_pos h1] at h ⊢
    by_cases h2 : L.length = 0
    · rw [if_pos h2] at h; simp at h
    · rw [if_neg h2] at h ⊢
      by_cases h3 : L.length < 1 + (if k = 3 then 2 else 1) * (L.getD 0 0).toNat
      · rw [if_pos h3] at h; simp at h
      · rw [if_neg h3] at h ⊢
        by_cases h4 : z < (L.getD 0 0).toNat
        · rw [if_pos h4] at h; simp at h
        · rw [if_neg h4] at h ⊢
          by_cases h5 : k = 2
          · rw [if_pos h5]
            rw [if_neg (by omega)] at h3
            dsimp only; omega
          · rw [if_neg h5]
            rw [if_pos (by omega)] at h3
            dsimp only; omega
  · rw [if_neg h1] at h ⊢
    by_cases h2 : (L.length : Int) < z
    · rw [if_pos h2] at h; simp at h
    · rw [if_neg h2] at h ⊢
      split
      · dsimp only; omega
      · split
        · dsimp only; omega
        · split
          · dsimp only; omega
          · dsimp only; omega
end Go.Proofs.YtiomfkgbaemmkaaDoor
