/-
  Plain facts of the laws of chapter 1: one byte that differs is seen by the checksum; a string patched back is the string; a number that is written is read again.
-/
import Derived.Test.YtiomfkgbaemmkaaPlain2
namespace Go.Proofs.Ytiomfkgbaemmkaa
set_option linter.unusedVariables false
set_option linter.unusedSimpArgs false
open Go.RowKit

theorem sumStep_inj {a b c : Int} (ha : 0 ≤ a ∧ a < 2147483648) (hb : 0 ≤ b ∧ b < 2147483648) (h : sumStep a c = sumStep b c) : a = b := by
  unfold sumStep at h
  have ra : (a < 1073741824 ∧ a * 2 % 2147483648 = a * 2 ∧ a / 1073741824 = 0) ∨ (1073741824 ≤ a ∧ a * 2 % 2147483648 = a * 2 - 2147483648 ∧ a / 1073741824 = 1) := by omega
  have rb : (b < 1073741824 ∧ b * 2 % 2147483648 = b * 2 ∧ b / 1073741824 = 0) ∨ (1073741824 ≤ b ∧ b * 2 % 2147483648 = b * 2 - 2147483648 ∧ b / 1073741824 = 1) := by omega
  rcases ra with ⟨h1, h2, h3⟩ | ⟨h1, h2, h3⟩ <;> rcases rb with ⟨k1, k2, k3⟩ | ⟨k1, k2, k3⟩ <;> rw [h2, h3, k2, k3] at h <;> omega
theorem sumStep_byte {a c d : Int} (hc : 0 ≤ c ∧ c < 256) (hd : 0 ≤ d ∧ d < 256) (h : sumStep a c = sumStep a d) : c = d := by
  unfold sumStep at h; omega
theorem sumL_inj (l : List UInt8) : ∀ (a b : Int), 0 ≤ a ∧ a < 2147483648 → 0 ≤ b ∧ b < 2147483648 → sumL l a = sumL l b → a = b := by
  induction l with
  | nil => intro a b _ _ h; exact h
  | cons x l ih => intro a b ha hb h; exact sumStep_inj ha hb (ih _ _ (sumStep_lt _ _) (sumStep_lt _ _) h)
theorem sumL_append (l m : List UInt8) (n : Int) : sumL (l ++ m) n = sumL m (sumL l n) := by unfold sumL; rw [List.foldl_append]
theorem sumL_differ (l m : List UInt8) (c d : UInt8) (n : Int) (h : sumL (l ++ [c] ++ m) n = sumL (l ++ [d] ++ m) n) : c = d := by
  rw [sumL_append, sumL_append, sumL_append, sumL_append] at h
  have h1 := sumL_inj m _ _ (sumStep_lt (sumL l n) c.toNat) (sumStep_lt (sumL l n) d.toNat) h
  have h2 := sumStep_byte (a := sumL l n) (c := c.toNat) (d := d.toNat) ⟨by omega, by have := c.toNat_lt; omega⟩ ⟨by omega, by have := d.toNat_lt; omega⟩ h1
  exact UInt8.toNat_inj.1 (by omega)
theorem split_at (s : ByteArray) (k : Nat) (h : k < s.size) : bl s = (bl s).take k ++ [s[k]] ++ (bl s).drop (k + 1) := by
  have h2 : (bl s).take k ++ (bl s).drop k = bl s := List.take_append_drop k _
  rw [drop_bl s k h] at h2
  rw [List.append_assoc]
  exact h2.symm
theorem bl_pat1 (s : ByteArray) (k : Nat) (c : UInt8) : bl (patS s k (bs [c])) = (bl s).take k ++ [c] ++ (bl s).drop (k + 1) := by
  rw [bl_patS]; rfl
theorem pat1_size (s : ByteArray) (k : Nat) (c : UInt8) (h : k < s.size) : (patS s k (bs [c])).size = s.size := by
  rw [← bl_length, bl_pat1, ← bl_length]
  have : k < (bl s).length := h
  simp only [List.length_append, List.length_take, List.length_drop, List.length_cons, List.length_nil]
  omega
theorem pat1_sum (s : ByteArray) (k : Nat) (c : UInt8) (h : k < s.size) (hc : s[k] ≠ c) : sumL (bl s) 0 ≠ sumL (bl (patS s k (bs [c]))) 0 := by
  intro e
  rw [bl_pat1] at e
  rw [split_at s k h] at e
  have h1 : ((bl s).take k ++ [s[k]] ++ (bl s).drop (k + 1)).take k = (bl s).take k := by
    rw [← split_at s k h]
  have h2 : ((bl s).take k ++ [s[k]] ++ (bl s).drop (k + 1)).drop (k + 1) = (bl s).drop (k + 1) := by
    rw [← split_at s k h]
  rw [h1, h2] at e
  exact hc (sumL_differ _ _ _ _ _ e)
theorem ext1 (s : ByteArray) (k : Nat) (h : k < s.size) : s.extract k (k + 1) = bs [s[k]] := by
  apply bl_inj
  rw [bl_extract, bl_bs, List.drop_take, Nat.add_sub_cancel_left, drop_bl s k h]
  rfl
theorem pat1_back (s : ByteArray) (k : Nat) (c : UInt8) (h : k < s.size) : patS (patS s k (bs [c])) k (bs [s[k]]) = s := by
  apply bl_inj
  have hk : k < (bl s).length := h
  rw [bl_pat1, bl_pat1, List.append_assoc, List.append_assoc, List.take_append_of_le_length (by rw [List.length_take]; omega), List.take_take, Nat.min_self, ← List.append_assoc, List.drop_append, List.length_take, Nat.min_eq_left (by omega),
    List.drop_of_length_le (by rw [List.length_take]; omega), Nat.add_sub_cancel_left]
  show _ ++ [s[k]] ++ ([] ++ (([c] ++ (bl s).drop (k + 1)).drop 1)) = _
  rw [split_at s k h]
  congr 1
  · congr 1; rw [← split_at s k h]
  · rw [← split_at s k h]; rfl
theorem patE_ok (s b : ByteArray) (k : Nat) (hs : s.size ≤ 200000) (h : k + b.size ≤ s.size) : patE s k b = 0 := by
  have h1 : strE s = 0 := strE_zero.2 hs
  have h2 : strE b = 0 := strE_zero.2 (by omega)
  have h3 : inB k 0 ((s.size : Int) - b.size) = true := inB_true.2 ⟨by omega, by omega⟩
  simp [patE, firstE, h1, h2, h3, unl]
theorem atE_ok (s : ByteArray) (c : Nat) (hs : s.size ≤ 200000) (h1 : 1 ≤ c) (h6 : c ≤ 6) (h : c ≤ s.size) : atE s 0 c = 0 := by
  have e1 : strE s = 0 := strE_zero.2 hs
  have e2 : cntE c = 0 := cntE_zero.2 ⟨by omega, by omega⟩
  have e3 : inB 0 0 ((s.size : Int) - c) = true := inB_true.2 ⟨by omega, by omega⟩
  simp [atE, e1, e2, e3, unl]
theorem litE_zero {n c : Int} (h : litE n c = 0) : 1 ≤ c ∧ c ≤ 6 ∧ 0 ≤ n ∧ n < 256 ^ c.toNat := by
  unfold litE at h
  by_cases h1 : cntE c = 0
  · rw [if_neg (by simp [h1])] at h
    have h2 := cntE_zero.1 h1
    cases h3 : inB n 0 (256 ^ c.toNat - 1)
    · rw [h3] at h; exact absurd h (by decide)
    · have := inB_true.1 h3; omega
  · rw [if_pos (by simpa using h1)] at h
    exact absurd h h1
/-- a number that is written is read again -/
theorem cut_lit (n : Int) (c : Nat) (h1 : 1 ≤ c) (h6 : c ≤ 6) (h0 : 0 ≤ n) (hn : n < 256 ^ c) : num (bl (cutS (bs (lit n c)) 0 c)) = n := by
  have hz : (bs (lit n c)).size = c := by rw [bs_size, lit_length]
  have ha : atE (bs (lit n c)) 0 c = 0 := atE_ok _ c (by omega) h1 h6 (by omega)
  unfold cutS
  rw [if_pos ha]
  show num (bl (((bs (lit n c)).extract 0 (bs (lit n c)).size).extract 0 c)) = n
  rw [bl_cut, bl_bs, List.drop_zero, List.take_of_length_le (by rw [lit_length]; exact Nat.le_refl _), num_lit, Int.emod_eq_of_lt h0 hn]
theorem cut_num (s : ByteArray) (a c : Nat) (h : atE s a c = 0) : num (bl (cutS s a c)) = num (((bl s).drop a).take c) := by
  unfold cutS
  rw [if_pos h]
  show num (bl ((s.extract a s.size).extract 0 c)) = _
  rw [bl_cut]
theorem cut_bad (s : ByteArray) (a c : Int) (h : ¬ atE s a c = 0) : num (bl (cutS s a c)) = 0 := by
  unfold cutS
  rw [if_neg h]; rfl
theorem lit_mod (n : Int) (c : Nat) : lit (n % 256 ^ c) c = lit n c := by
  have h := lit_num (lit n c)
  rw [num_lit, lit_length] at h
  exact h
theorem lit_take (n : Int) : ∀ c k, k ≤ c → (lit n c).take k = lit n k := by
  intro c
  induction c with
  | zero => intro k hk; obtain rfl : k = 0 := by omega
            rfl
  | succ c ih =>
    intro k hk
    by_cases h : k ≤ c
    · rw [lit_snoc, List.take_append_of_le_length (by rw [lit_length]; exact h), ih k h]
    · obtain rfl : k = c + 1 := by omega
      rw [List.take_of_length_le (by rw [lit_length]; exact Nat.le_refl _)]
theorem sat_lit (n : Int) (c k : Nat) (h1 : 1 ≤ k) (h6 : k ≤ 6) (h : k ≤ c) (hc : c ≤ 200000) : satV (bs (lit n c)) 0 k = sval (n % 256 ^ k) k := by
  have ha : atE (bs (lit n c)) 0 k = 0 := atE_ok _ k (by rw [bs_size, lit_length]; exact hc) h1 h6 (by rw [bs_size, lit_length]; exact h)
  unfold satV
  rw [if_pos ha]
  have := cut_num (bs (lit n c)) 0 k ha
  rw [show ((0 : Nat) : Int) = 0 from rfl] at this
  rw [this, List.drop_zero, bl_bs, lit_take n c k h, num_lit]
theorem sval_rng (m : Int) (k : Nat) (hk : k = 1 ∨ k = 2 ∨ k = 3) : -(256 ^ k / 2) ≤ sval (m % 256 ^ k) k ∧ sval (m % 256 ^ k) k < 256 ^ k / 2 := by
  unfold sval
  rcases hk with rfl | rfl | rfl <;> simp <;> split <;> omega
theorem sval_less (n : Int) (k : Nat) (hk : 1 ≤ k) (h : k + 1 = scount n) : sval (n % 256 ^ k) k ≠ n := by
  intro e
  have h4 := (scount_spec n).2
  have r := sval_rng n k (by omega)
  rw [e] at r
  rcases scount_cases n with ⟨a, _⟩ | ⟨a, _, _, b⟩ | ⟨a, _, _, b⟩ | ⟨a, b⟩
  · omega
  · obtain rfl : k = 1 := by omega
    simp at r; omega
  · obtain rfl : k = 2 := by omega
    simp at r; omega
  · obtain rfl : k = 3 := by omega
    simp at r; omega
end Go.Proofs.Ytiomfkgbaemmkaa
