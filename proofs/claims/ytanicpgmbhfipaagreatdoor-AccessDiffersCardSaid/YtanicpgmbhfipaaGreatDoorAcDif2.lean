/-
  Chapter 17: what AccessDiffers asks of compared and of the reference (plain).
-/
import Derived.Test.YtanicpgmbhfipaaGreatDoorAcOwn
namespace Go.Proofs.YtanicpgmbhfipaaGreatDoor
set_option linter.unusedVariables false
set_option linter.unusedSimpArgs false
open Go.RowKit Go.Sort

theorem InT.below {X Y : World} {B : Nat} {p : Value × TokP} (h : InT X B p) (hb : Below X.heap.size X Y) : InT Y B p := InO.below (p := (p.1, p.2.gs)) h hb
theorem fstT_some {F : Int → Int → Int} {a b : DscP} : ∀ (L : List TokP) (t : TokP) (n : Int), fstT F a b L = some (t, n) → t ∈ L ∧ n ≠ 0
  | [], t, n, h => by cases h
  | u :: r, t, n, h => by
    unfold fstT at h
    split at h
    · rename_i hn
      injection h with h
      injection h with h1 h2
      subst h1 h2
      exact ⟨List.mem_cons_self, hn⟩
    · obtain ⟨h1, h2⟩ := fstT_some r t n h
      exact ⟨List.mem_cons_of_mem _ h1, h2⟩
theorem cmpE_zero {a b : DscP} {who : List Int} (h : cmpE a b who = 0) : dscE a = 0 ∧ dscE b = 0 ∧ whoE who = 0 := by
  have := firstE_zero h
  exact ⟨this _ (by simp), this _ (by simp), this _ (by simp)⟩
theorem cmpE_eq (a b : DscP) (who : List Int) : cmpE a b who = if (if dscE a ≠ 0 then dscE a else dscE b) ≠ 0 then (if dscE a ≠ 0 then dscE a else dscE b) else whoE who := by
  unfold cmpE firstE firstE firstE firstE
  by_cases h1 : dscE a = 0
  · by_cases h2 : dscE b = 0
    · by_cases h3 : whoE who = 0 <;> simp [h1, h2, h3]
    · simp [h1, h2]
  · simp [h1]
theorem cmpR_bad {F : Int → Int → Int} {a b : DscP} {who : List Int} (h : cmpE a b who ≠ 0) : cmpR F a b who = (noT, 0, cmpE a b who) := by
  unfold cmpR; rw [if_pos h]
theorem cmpR_dif {a b : DscP} {who : List Int} (h : cmpE a b who = 0) : ((difR a b (toksP who)).2 = true → ∃ n, cmpR xorF a b who = ((difR a b (toksP who)).1, n, 0)) ∧ ((difR a b (toksP who)).2 = false → cmpR xorF a b who = (noT, 0, 12) ∧ (difR a b (toksP who)).1 = noT) := by
  unfold cmpR difR
  rw [if_neg (by simpa using h)]
  cases hf : fstT xorF a b (toksP who) with
  | none => exact ⟨fun h => (by cases h), fun _ => ⟨rfl, rfl⟩⟩
  | some q => exact ⟨fun _ => ⟨q.2, rfl⟩, fun h => (by cases h)⟩
theorem cmpR_mor {a b : DscP} {who : List Int} (h : cmpE a b who = 0) : ((morR a b (toksP who)).2 ≠ 0 → cmpR moreF a b who = ((morR a b (toksP who)).1, (morR a b (toksP who)).2, 0)) ∧ ((morR a b (toksP who)).2 = 0 → cmpR moreF a b who = (noT, 0, 12)) := by
  unfold cmpR morR
  rw [if_neg (by simpa using h)]
  cases hf : fstT moreF a b (toksP who) with
  | none => exact ⟨fun h => (by exact absurd rfl h), fun _ => rfl⟩
  | some q => exact ⟨fun _ => rfl, fun h => absurd h (fstT_some _ _ _ hf).2⟩
theorem cmpR_len (F : Int → Int → Int) (a b : DscP) (who : List Int) : (cmpR F a b who).1.gs.length ≤ 5 := by
  unfold cmpR
  split
  · simp [noT]
  · rename_i h
    have hw := (cmpE_zero (by simpa using h)).2.2
    have hl := (whoE_len hw).1
    split
    · rename_i q t n hf
      have hm := (fstT_some _ _ _ hf).1
      exact Nat.le_trans ((toksP_p who t hm).2 _ rfl) hl
    · simp [noT]
end Go.Proofs.YtanicpgmbhfipaaGreatDoor
