/-
  Strings: Patched, PaddedTo; the helpers' Patch, Zeros; the reference's PatchErr, Padded.
-/
import Derived.Test.YtiomfkgbaemmkaaDoorPlain2
import Derived.Test.YtiomfkgbaemmkaaDoorNums
import Derived.Test.YtiomfkgbaemmkaaDoorShelf
namespace Go.Proofs.YtiomfkgbaemmkaaDoor
set_option linter.unusedVariables false
set_option linter.unusedSimpArgs false
open Go.RowKit

/-- what Patched returns -/
def patR (s : ByteArray) (a : Int) (b : ByteArray) : ByteArray := if patE s a b = 0 then patS s a.toNat b else ⟨#[]⟩

theorem madeZeros (n : Nat) : (madeCells (Value.int .u8 0).cells (n * 1)).toList = (zerosL n).map byteV := by
  have : (Value.int .u8 0).cells = #[.int .u8 0] := rfl
  rw [this, Nat.mul_one, toList_madeCells_one]
  simp [zerosL, byteV]

theorem Zeros_any (n : Nat) (w : World) (hn : n ≤ 200000) :
    Calls Tryd.prog 55 #[.int .i64 n] w fun e w' => e = .returned (.string (bs (zerosL n))) ∧ Below w.heap.size w w' := by
  obtain ⟨i0, hi, hz0, hz1, hz2⟩ := info_parts info_u8
  have hmin : min (n : Int) 200000 = n := by omega
  have hmax : max 0 (n : Int) = n := by omega
  go_enter Tryd.func55, Tryd.ntmps55
  go_wp2_with (at_make; refine wpList_make_full _ rfl _ _ _ rfl w.heap.size 5 i0 (.int .u8 0) 1 Tryd.underlying53 hi hz0 hz1 _ _ _ _ n rfl rfl rfl rfl (by rw [hz2]; omega) (by unfold maxLen; omega) (Nat.le_refl _) ?_; intro W1 hown hgrow; rw [madeZeros] at hown; have hb1 : Below w.heap.size w W1 := (Below.refl _ _).grown hgrow (Nat.le_refl _) (by simp); have hconv := conv_own hown; clear hown hgrow)
  go_ret
  exact ⟨rfl, hb1⟩

theorem repeat0_any (k : Nat) (z : ByteArray) (w : World) (hz : z = bs (zerosL k)) (hk : k ≤ 1000000) :
    Calls Tryd.prog 25 #[.string ⟨#[0]⟩, .int .i64 k] w fun e w' => e = .returned (.string z) ∧ Below w.heap.size w w' := by
  refine (Tryd.strings_Repeat _ k _ (by omega) (by show 1 * k ≤ _; omega)).mono ?_
  rintro e W1 ⟨rfl, hb1⟩
  refine ⟨?_, hb1⟩
  rw [hz, ← repeat_zero]; rfl
theorem zerosL_size (k : Nat) : (bs (zerosL k)).size = k := by rw [bs_size]; simp [zerosL]

theorem padE_of (s : ByteArray) (u : Int) (h1 : strE s = 0) (h2 : 0 < u) : firstE [strE s, unl (decide (0 < u)) 11] = 0 := by simp [firstE, h1, h2, unl]

end Go.Proofs.YtiomfkgbaemmkaaDoor
