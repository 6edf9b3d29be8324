/-
  Plain words: patches, padding, values of fields. No program in sight.
-/
import Derived.Test.YtanicpgmbhfipaaDoorPlain
import Derived.Lib.Repeat
namespace Go.Proofs.YtanicpgmbhfipaaDoor
set_option linter.unusedVariables false
set_option linter.unusedSimpArgs false
open Go.RowKit

/-- a string with other bytes from an offset on -/
def patS (s : ByteArray) (a : Nat) (b : ByteArray) : ByteArray := s.extract 0 a ++ b ++ s.extract (a + b.size) s.size
theorem bl_patS (s : ByteArray) (a : Nat) (b : ByteArray) : bl (patS s a b) = (bl s).take a ++ bl b ++ (bl s).drop (a + b.size) := by
  unfold patS
  rw [bl_append, bl_append, bl_extract, bl_extract]
  congr 1
  rw [← bl_length s, List.take_length]
/-- the error of a patch -/
def patE (s : ByteArray) (a : Int) (b : ByteArray) : Int := firstE [strE s, strE b, unl (inB a 0 (s.size - b.size)) 37]
theorem patE_zero {s : ByteArray} {a : Int} {b : ByteArray} (h : patE s a b = 0) : s.size ≤ 200000 ∧ b.size ≤ 200000 ∧ 0 ≤ a ∧ a ≤ s.size - b.size := by
  unfold patE at h
  simp only [firstE] at h
  by_cases h1 : strE s = 0
  · by_cases h2 : strE b = 0
    · rw [if_pos h1, if_pos h2] at h
      cases h3 : inB a 0 (s.size - b.size) with
      | false => rw [h3] at h; simp [unl] at h
      | true =>
        rw [inB_true] at h3
        exact ⟨strE_zero.1 h1, strE_zero.1 h2, h3.1, h3.2⟩
    · rw [if_pos h1, if_neg h2] at h; exact absurd h h2
  · rw [if_neg h1] at h; exact absurd h h1
/-- how many bytes 0 come to a multiple of a unit -/
def moreN (n u : Int) : Int := if 0 < n % u then u - n % u else 0
/-- so many bytes 0 -/
def zerosL (n : Nat) : List UInt8 := List.replicate n 0
/-- the error of padding -/
def padE (s : ByteArray) (u : Int) : Int := if firstE [strE s, unl (decide (0 < u)) 11] ≠ 0 then firstE [strE s, unl (decide (0 < u)) 11] else unl (decide (moreN s.size u ≤ 200000 - s.size)) 8
def padS (s : ByteArray) (u : Int) : ByteArray := if padE s u = 0 then s ++ bs (zerosL (moreN s.size u).toNat) else ⟨#[]⟩
theorem moreN_bd (n u : Int) (hn : 0 ≤ n) (hu : 0 < u) : 0 ≤ moreN n u ∧ moreN n u < u := by
  have h1 := Int.emod_nonneg n (b := u) (by omega)
  have h2 := Int.emod_lt_of_pos n hu
  unfold moreN
  split <;> omega
theorem repeat_zero (n : Nat) : Lib.repeatL [0] n = zerosL n := by
  induction n with
  | zero => rfl
  | succ n ih => simp [Lib.repeatL, ih, zerosL, List.replicate_succ]
end Go.Proofs.YtanicpgmbhfipaaDoor
