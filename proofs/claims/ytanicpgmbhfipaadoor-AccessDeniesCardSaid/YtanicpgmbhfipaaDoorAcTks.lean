/-
  Chapter 17: the reference's tokens; TokensOf.
-/
import Derived.Test.YtanicpgmbhfipaaDoorAcSub
namespace Go.Proofs.YtanicpgmbhfipaaDoor
set_option linter.unusedVariables false
set_option linter.unusedSimpArgs false
open Go.RowKit Go.Sort

theorem whoE_len {l : List Int} (h : whoE l = 0) : l.length ≤ 5 ∧ usersE l = 0 := by
  have hz := firstE_zero h
  have h1 := unl_zero (by decide) (hz (unl (decide (l.length ≤ 5)) 8) (by simp))
  exact ⟨by simpa using h1, hz _ (by simp)⟩
/-- tokens and an error -/
def TksR (w : World) (L : List TokP) (r : Int) (e : Ending) (w' : World) : Prop := ∃ ps B k, e = .returned (.tuple #[.slice B ps.length k, .int .i64 r]) ∧ ps.map (·.2) = L ∧ w'.ownsRow w.heap.size 27 3 (.slice B ps.length k) ps.length (toksV ps) ∧ (∀ p ∈ ps, InT w' w.heap.size p) ∧ Below w.heap.size w w'
def othN (l : List Int) (i : Nat) : Nat → List Int
  | 0 => []
  | j + 1 => othN l i j ++ (if j = i then [] else [l.getD j 0])
theorem othN_eq (l : List Int) (i : Nat) : ∀ j, j ≤ l.length → othN l i j = if j ≤ i then l.take j else l.take i ++ (l.take j).drop (i + 1)
  | 0, _ => by simp [othN]
  | j + 1, h => by
    have ih := othN_eq l i j (by omega)
    have hg : l.getD j 0 = l[j] := by rw [List.getD_eq_getElem?_getD, List.getElem?_eq_getElem (by omega)]; rfl
    have htk : l.take (j + 1) = l.take j ++ [l[j]] := List.take_succ_eq_append_getElem (by omega)
    unfold othN
    rw [ih, hg]
    by_cases h1 : j < i
    · rw [if_pos (by omega), if_neg (by omega), if_pos (by omega), htk]
    · by_cases h2 : j = i
      · subst h2
        rw [if_pos (Nat.le_refl _), if_pos rfl, if_neg (by omega), List.drop_of_length_le (by rw [List.length_take]; omega)]
      · rw [if_neg (by omega), if_neg h2, if_neg (by omega), htk, List.drop_append_of_le_length (by rw [List.length_take]; omega), List.append_assoc]
theorem othN_all (l : List Int) (i : Nat) (hi : i < l.length) : othN l i l.length = othL l i := by
  rw [othN_eq l i _ (Nat.le_refl _), if_neg (by omega), List.take_of_length_le (Nat.le_refl _)]; rfl
theorem othN_len (l : List Int) (i : Nat) : ∀ j, (othN l i j).length ≤ j
  | 0 => Nat.le_refl _
  | j + 1 => by
    have := othN_len l i j
    unfold othN
    rw [List.length_append]
    split <;> simp <;> omega
def tokI (u : Int) (s : List Int) : TokP := ⟨u, s, 0⟩
def lvl (o : List Int) (j : Nat) : List (List Int) := (List.range j).flatMap (subL o)
theorem lvl_succ (o : List Int) (j : Nat) : lvl o (j + 1) = lvl o j ++ subL o j := by
  unfold lvl
  rw [List.range_succ, List.flatMap_append, List.flatMap_singleton]
theorem lvl_len (o : List Int) (h : o.length ≤ 4) : ∀ j, (lvl o j).length ≤ 16 * j
  | 0 => by simp [lvl]
  | j + 1 => by
    have h1 := lvl_len o h j
    have h2 := subL_len o j
    have h3 : 2 ^ o.length ≤ 2 ^ 4 := Nat.pow_le_pow_right (by decide) h
    rw [lvl_succ, List.length_append]
    omega
theorem lvl_all (l : List Int) (i : Nat) (hi : i < l.length) : toksN l (i + 1) = toksN l i ++ (lvl (othL l i) ((othL l i).length + 1)).map (tokI (l.getD i 0)) := by
  rw [toksN_succ]; rfl
theorem InT.kept {X Y : World} {B B' n : Nat} {e : TypeId} {s : Nat} {p : Value × TokP} {v : Value} {xs : List Value} (h : InT X B p) (hv : X.ownsRow B' e s v n xs) (hne : 3 ≠ e) (hg : X.grownBy Y v.ownBlock) : InT Y B p := InO.kept h hv hne hg
def LitT (B : Nat) (u : Int) (A : Option Addr) (n c : Nat) (v : Value) (X : World) : Prop := ∃ g, v = .slice (some ⟨g, 0, none⟩) 1 1 ∧ B ≤ g ∧ X.heap[g]? = some (.cells #[.int .i64 u, .slice A n c, .int .i64 0] 27 (0, 0))
theorem LitT.stable {B : Nat} {u : Int} {A : Option Addr} {n c : Nat} (v : Value) (X X' : World) (h : LitT B u A n c v X) (hb : Below X.heap.size X X') : LitT B u A n c v X' := by
  obtain ⟨g, h1, h2, h3⟩ := h
  exact ⟨g, h1, h2, (hb.block g (Array.getElem?_eq_some_iff.1 h3).1).trans h3⟩
end Go.Proofs.YtanicpgmbhfipaaDoor
