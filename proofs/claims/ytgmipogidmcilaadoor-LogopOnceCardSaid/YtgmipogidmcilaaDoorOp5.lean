/-
  Chapter 21, plain words: the patches between two pages.
-/
import Derived.Test.YtgmipogidmcilaaDoorOp4
namespace Go.Proofs.YtgmipogidmcilaaDoor
set_option linter.unusedVariables false
set_option linter.unusedSimpArgs false
open Go.RowKit

/-- do two pages differ in a byte? -/
def dif (a b : ByteArray) (i : Nat) : Bool := (bl a).getD i 0 != (bl b).getD i 0
/-- the first byte from one on in which they differ -/
def skipTo (a b : ByteArray) : Nat → Nat → Nat
  | 0, k => k
  | f + 1, k => if dif a b k then k else skipTo a b f (k + 1)
/-- the byte behind the last one that belongs to the patch -/
def endAt (a b : ByteArray) (lim : Nat) : Nat → Nat → Nat → Nat
  | 0, _, e => e
  | f + 1, i, e => if i < lim ∧ i < e + 4 then endAt a b lim f (i + 1) (if dif a b i then i + 1 else e) else e
def patLim (s : Nat) : Nat := min 512 (s + 200)
def patEnd (a b : ByteArray) (s : Nat) : Nat := endAt a b (patLim s) (patLim s - (s + 1)) (s + 1) (s + 1)
def patOp (a b : ByteArray) (s e : Nat) : Op := ⟨1, s, 0, 0, a.extract s e, b.extract s e⟩
def patSkip (a b : ByteArray) (k : Nat) : Nat := skipTo a b (512 - k) k
/-- the patches from a byte on -/
def betL (a b : ByteArray) : Nat → Nat → List Op
  | 0, _ => []
  | f + 1, k => if patSkip a b k = 512 then [] else patOp a b (patSkip a b k) (patEnd a b (patSkip a b k)) :: betL a b f (patEnd a b (patSkip a b k))
def between (a b : ByteArray) : List Op := betL a b 513 0

theorem skipTo_succ (a b : ByteArray) (f k : Nat) : skipTo a b (f + 1) k = if dif a b k then k else skipTo a b f (k + 1) := rfl
theorem endAt_succ (a b : ByteArray) (lim f i e : Nat) : endAt a b lim (f + 1) i e = if i < lim ∧ i < e + 4 then endAt a b lim f (i + 1) (if dif a b i then i + 1 else e) else e := rfl
theorem skipTo_bd (a b : ByteArray) : ∀ f k, k ≤ skipTo a b f k ∧ skipTo a b f k ≤ k + f
  | 0, k => by unfold skipTo; omega
  | f + 1, k => by
    unfold skipTo
    split
    · omega
    · have := skipTo_bd a b f (k + 1); omega
theorem patSkip_bd (a b : ByteArray) (k : Nat) (hk : k ≤ 512) : k ≤ patSkip a b k ∧ patSkip a b k ≤ 512 := by
  have := skipTo_bd a b (512 - k) k
  unfold patSkip; omega
theorem patSkip_end (a b : ByteArray) : patSkip a b 512 = 512 := rfl
theorem patSkip_dif {a b : ByteArray} {k : Nat} (hk : k < 512) (h : dif a b k = true) : patSkip a b k = k := by
  unfold patSkip
  obtain ⟨f, hf⟩ : ∃ f, 512 - k = f + 1 := ⟨511 - k, by omega⟩
  rw [hf, skipTo_succ, if_pos h]
theorem patSkip_same {a b : ByteArray} {k : Nat} (hk : k < 512) (h : dif a b k = false) : patSkip a b k = patSkip a b (k + 1) := by
  unfold patSkip
  obtain ⟨f, hf⟩ : ∃ f, 512 - k = f + 1 := ⟨511 - k, by omega⟩
  rw [hf, skipTo_succ, if_neg (by rw [h]; decide), show 512 - (k + 1) = f by omega]
theorem endAt_bd (a b : ByteArray) (lim : Nat) : ∀ f i e, e ≤ i → i ≤ lim → e ≤ endAt a b lim f i e ∧ endAt a b lim f i e ≤ lim
  | 0, i, e, h1, h2 => by unfold endAt; omega
  | f + 1, i, e, h1, h2 => by
    unfold endAt
    split
    · rename_i h
      split
      · have := endAt_bd a b lim f (i + 1) (i + 1) (Nat.le_refl _) (by omega); omega
      · have := endAt_bd a b lim f (i + 1) e (by omega) (by omega); omega
    · omega
theorem patEnd_bd (a b : ByteArray) (s : Nat) (hs : s < 512) : s < patEnd a b s ∧ patEnd a b s ≤ 512 ∧ patEnd a b s ≤ s + 200 := by
  have := endAt_bd a b (patLim s) (patLim s - (s + 1)) (s + 1) (s + 1) (Nat.le_refl _) (by unfold patLim; omega)
  unfold patEnd
  unfold patLim at *
  omega
theorem endAt_stop {a b : ByteArray} {lim i e : Nat} (h : ¬ (i < lim ∧ i < e + 4)) (f : Nat) : endAt a b lim f i e = e := by
  cases f with
  | zero => rfl
  | succ f => rw [endAt_succ, if_neg h]
theorem endAt_go {a b : ByteArray} {lim i e : Nat} (h : i < lim ∧ i < e + 4) : endAt a b lim (lim - i) i e = endAt a b lim (lim - (i + 1)) (i + 1) (if dif a b i then i + 1 else e) := by
  obtain ⟨f, hf⟩ : ∃ f, lim - i = f + 1 := ⟨lim - i - 1, by omega⟩
  rw [hf, endAt_succ, if_pos h, show lim - (i + 1) = f by omega]
end Go.Proofs.YtgmipogidmcilaaDoor
