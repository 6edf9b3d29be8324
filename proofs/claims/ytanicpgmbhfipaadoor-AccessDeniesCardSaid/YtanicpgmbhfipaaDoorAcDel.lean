/-
  Chapter 17: whether a file may be deleted.
-/
import Derived.Test.YtanicpgmbhfipaaDoorAcL
namespace Go.Proofs.YtanicpgmbhfipaaDoor
set_option linter.unusedVariables false
set_option linter.unusedSimpArgs false
open Go.RowKit Go.Sort

theorem bit_add_hi (x : Int) (i n : Nat) (h : i < n) : bitI (x + 2 ^ n) i = bitI x i := by
  unfold bitI
  obtain ⟨k, rfl⟩ : ∃ k, n = i + 1 + k := ⟨n - (i + 1), by omega⟩
  have e : x + (2 : Int) ^ (i + 1 + k) = x + 2 ^ i * (2 * 2 ^ k) := by rw [Int.pow_add, Int.pow_succ, Int.mul_assoc]
  rw [e, Int.add_mul_ediv_left _ _ (by have := Int.pow_pos (n := 2) (m := i) (by decide); omega)]
  have : (x / 2 ^ i + 2 * 2 ^ k) % 2 = x / 2 ^ i % 2 := by omega
  rw [this]
theorem rgt_bit (d : DscP) (t : TokP) (i : Nat) : ∀ n, i < n → bitI (rgtN d t n) i = grtB d t i
  | 0, h => by omega
  | n + 1, h => by
    obtain ⟨b1, b2⟩ := rgtN_bd d t n
    have hp : (0 : Int) < 2 ^ n := Int.pow_pos (by decide)
    by_cases hi : i < n
    · have ih := rgt_bit d t i n hi
      unfold rgtN
      split
      · rw [bit_add_hi _ _ _ hi, ih]
      · rw [Int.add_zero, ih]
    · obtain rfl : i = n := by omega
      unfold rgtN bitI
      cases h : grtB d t i
      · rw [if_neg (by decide), Int.add_zero, Int.ediv_eq_zero_of_lt b1 b2]; rfl
      · rw [if_pos rfl]
        have : (rgtN d t i + 2 ^ i) / 2 ^ i = 1 := by
          rw [show rgtN d t i + (2 : Int) ^ i = rgtN d t i + 2 ^ i * 1 by rw [Int.mul_one], Int.add_mul_ediv_left _ _ (by omega), Int.ediv_eq_zero_of_lt b1 b2]; rfl
        rw [this]; rfl
theorem rgt_and (d : DscP) (t : TokP) (i : Nat) (hi : i < 9) : (bits .and .i64 (rgtP d t) ((2 : Int) ^ i) != 0) = grtB d t i := by
  obtain ⟨b1, b2⟩ := rgtN_bd d t 9
  rw [and_bit (rgtP d t) i b1 (by unfold rgtP; omega) (by omega)]
  exact rgt_bit d t i 9 hi
def mayE (a b : DscP) (t : TokP) : Int := firstE [dscE a, dscE b, tokE t]
def mayI (a b : DscP) (t : TokP) : Bool := grtB b t 5 || grtB a t 4
theorem mayE_zero {a b : DscP} {t : TokP} (h : mayE a b t = 0) : botE a t = 0 ∧ botE b t = 0 := by
  have hz := firstE_zero h
  have h1 := hz (dscE a) (by simp)
  have h2 := hz (dscE b) (by simp)
  have h3 := hz (tokE t) (by simp)
  unfold botE
  rw [h1, h2, h3]
  exact ⟨rfl, rfl⟩
theorem mayE_eq (a b : DscP) (t : TokP) : mayE a b t = if dscE a ≠ 0 then dscE a else botE b t := by
  unfold mayE botE
  by_cases h : dscE a = 0
  · simp [firstE, h]
  · simp [firstE, h]
end Go.Proofs.YtanicpgmbhfipaaDoor
