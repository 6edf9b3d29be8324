/-
  The five examples that each statement of the chapter asks first: awake returns true.
-/
import Derived.Test.YtiomfkgbaemmkaaEnc3
import Derived.Test.YtiomfkgbaemmkaaSums
namespace Go.Proofs.Ytiomfkgbaemmkaa
set_option linter.unusedVariables false
set_option linter.unusedSimpArgs false
open Go.RowKit Go.Sort

theorem Encode_any (A A2 : Option Addr) (c c2 : Nat) (l : List Fld) (vs : List VC) (w : World) (hlen : l.length ≤ maxLen) (hvl : vs.length ≤ maxLen) (hr : Rd w w.heap.size A (fldsV l)) (hr2 : Rd w w.heap.size A2 (vcsV vs)) (hv : ∀ j, j < vs.length → VOk w w.heap.size (vs.getD j vc0)) :
    Calls Try.prog 41 #[.slice A l.length c, .slice A2 vs.length c2] w fun e w' => e = .returned (.tuple #[.string (encStr l vs), .int .i64 (encErr l vs)]) ∧ Below w.heap.size w w' := by
  by_cases h1 : (layP l).2 = 0
  · by_cases h2 : vs.length = l.length
    · have e : encErr l vs = (eachE (encE vs) 0 l).2 := by simp [encErr, h1, h2]
      by_cases h3 : (eachE (encE vs) 0 l).2 = 0
      · have e1 : encStr l vs = bs (encAt l vs l.length) := by unfold encStr; rw [e, if_pos h3]
        rw [e, e1, h3]
        exact Encode_ok A A2 c c2 l vs w hr hr2 hv h1 h2 h3
      · have e1 : encStr l vs = ⟨#[]⟩ := by unfold encStr; rw [e, if_neg h3]
        rw [e, e1]
        exact Encode_bad3 A A2 c c2 l vs w hr hr2 hv h1 h2 h3
    · have e : encErr l vs = 10 := by simp [encErr, h1, h2]
      have e1 : encStr l vs = ⟨#[]⟩ := by unfold encStr; rw [e, if_neg (by decide)]
      rw [e, e1]
      exact Encode_bad2 A A2 c c2 l vs w hlen hvl hr h1 h2
  · have e : encErr l vs = (layP l).2 := by simp [encErr, h1]
    have e1 : encStr l vs = ⟨#[]⟩ := by unfold encStr; rw [e, if_neg h1]
    rw [e, e1]
    exact Encode_bad1 A A2 c c2 l vs w hlen hr h1

theorem Rd.of_block {w : World} {b : Nat} {cs : Array Value} {T : TypeId} {fr : Nat × Nat} (h : w.heap[b]? = some (.cells cs T fr)) : Rd w w.heap.size (some ⟨b, 0, none⟩) cs.toList := fun j u hj => by
  refine ⟨b, 0, rfl, (Array.getElem?_eq_some_iff.1 h).1, ?_⟩
  rw [Nat.zero_add, cell_of_row w b j cs T fr h]
  simpa using hj

def exL : List Fld := [(0, 2), (2, 8), (4, 1)]
def exV : List VC := [⟨513, ⟨#[]⟩, none, 0, []⟩, ⟨0, ⟨#[104, 105]⟩, none, 0, []⟩, ⟨0, ⟨#[]⟩, none, 0, []⟩]
theorem ex1 : litS 1000 2 = ⟨#[232, 3]⟩ := by kernel_rfl
theorem ex1e : litE 1000 2 = 0 := by kernel_rfl
theorem ex2 : bs (lit (-200) (scount (-200))) = ⟨#[56, 255]⟩ := by kernel_rfl
theorem ex3 : sumL (bl ⟨#[97, 98]⟩) 0 = 292 := by kernel_rfl
theorem ex4 : hashL (bl ⟨#[97]⟩) 17 = 624 := by kernel_rfl
theorem ex5 : encStr exL exV = ⟨#[1, 2, 2, 104, 105, 0]⟩ := by kernel_rfl
theorem ex5e : encErr exL exV = 0 := by kernel_rfl

theorem awake1 (w : World) : Calls Try.prog 27 #[.int .i64 1000, .int .i64 2] w fun e w' => e = .returned (.tuple #[.string ⟨#[232, 3]⟩, .int .i64 0]) ∧ Below w.heap.size w w' :=
  (LittleOf_any 1000 2 w).mono fun _ _ h => ⟨by rw [h.1, ex1, ex1e], h.2⟩
theorem awake2 (w : World) : Calls Try.prog 33 #[.int .i64 (-200)] w fun e w' => e = .returned (.tuple #[.string ⟨#[56, 255]⟩, .int .i64 0]) ∧ Below w.heap.size w w' :=
  (SignedOf_any (-200) w (by decide) (by decide)).mono fun _ _ h => ⟨by rw [h.1, ex2], h.2⟩
theorem awake3 (w : World) : Calls Try.prog 11 #[.string ⟨#[97, 98]⟩] w fun e w' => e = .returned (.tuple #[.int .i64 292, .int .i64 0]) ∧ Below w.heap.size w w' :=
  (SumOf_any ⟨#[97, 98]⟩ w (by unfold maxLen; decide) (by decide)).mono fun _ _ h => ⟨by rw [h.1, ex3], h.2⟩
theorem awake4 (w : World) : Calls Try.prog 12 #[.string ⟨#[97]⟩] w fun e w' => e = .returned (.tuple #[.int .i64 624, .int .i64 0]) ∧ Below w.heap.size w w' :=
  (HashOf_any ⟨#[97]⟩ w (by unfold maxLen; decide) (by decide)).mono fun _ _ h => ⟨by rw [h.1, ex4], h.2⟩
theorem awake5 (w : World) : Calls Try.prog 41 #[.slice (some ⟨w.heap.size, 0, none⟩) 3 3, .slice (some ⟨w.heap.size + 1, 0, none⟩) 3 3] ((w.alloc (.cells #[.int .i64 0, .int .i64 2, .int .i64 2, .int .i64 8, .int .i64 4, .int .i64 1] 67)).alloc
      (.cells #[.int .i64 513, .string ⟨#[]⟩, .slice none 0 0, .int .i64 0, .string ⟨#[104, 105]⟩, .slice none 0 0, .int .i64 0, .string ⟨#[]⟩, .slice none 0 0] 69)) fun e w' =>
    e = .returned (.tuple #[.string ⟨#[1, 2, 2, 104, 105, 0]⟩, .int .i64 0]) ∧ Below w.heap.size w w' := by
  have hb2 : Below w.heap.size w ((w.alloc (.cells #[.int .i64 0, .int .i64 2, .int .i64 2, .int .i64 8, .int .i64 4, .int .i64 1] 67)).alloc
      (.cells #[.int .i64 513, .string ⟨#[]⟩, .slice none 0 0, .int .i64 0, .string ⟨#[104, 105]⟩, .slice none 0 0, .int .i64 0, .string ⟨#[]⟩, .slice none 0 0] 69)) := bel_alloc (bel_alloc (Below.refl _ _) _) _
  have h1 : ((w.alloc (.cells #[.int .i64 0, .int .i64 2, .int .i64 2, .int .i64 8, .int .i64 4, .int .i64 1] 67)).alloc
      (.cells #[.int .i64 513, .string ⟨#[]⟩, .slice none 0 0, .int .i64 0, .string ⟨#[104, 105]⟩, .slice none 0 0, .int .i64 0, .string ⟨#[]⟩, .slice none 0 0] 69)).heap[w.heap.size]? = _ := (Below.heap_alloc _ _ _ (by simp)).trans (heap_alloc_new w _)
  have h2 := heap_alloc_new (w.alloc (.cells #[.int .i64 0, .int .i64 2, .int .i64 2, .int .i64 8, .int .i64 4, .int .i64 1] 67)) (.cells #[.int .i64 513, .string ⟨#[]⟩, .slice none 0 0, .int .i64 0, .string ⟨#[104, 105]⟩, .slice none 0 0, .int .i64 0, .string ⟨#[]⟩, .slice none 0 0] 69)
  rw [World.size_alloc] at h2
  refine (Encode_any (some ⟨w.heap.size, 0, none⟩) (some ⟨w.heap.size + 1, 0, none⟩) 3 3 exL exV _ (by unfold maxLen; decide) (by unfold maxLen; decide) (Rd.of_block h1) (Rd.of_block h2) ?_).mono ?_
  · intro j hj
    have : j = 0 ∨ j = 1 ∨ j = 2 := by have : j < 3 := hj; omega
    rcases this with rfl | rfl | rfl
    all_goals exact ⟨by unfold maxLen; decide, by unfold maxLen; decide, fun j u hu => by simp [exV] at hu⟩
  · rintro e w' ⟨rfl, hb⟩
    exact ⟨by rw [ex5, ex5e], bel_trans hb2 hb⟩

set_option maxRecDepth 100000 in
set_option maxHeartbeats 1000000 in
theorem awake_any (w : World) : Calls Try.prog 10 #[] w fun e w' => e = .returned (.bool true) ∧ Below w.heap.size w w' := by
  go_enter Try.func10, Try.ntmps10
  go_wp2_with (first | (go_at_call 27; refine (awake1 _).mono ?_; rintro e W1 ⟨rfl, hbW1⟩; obtain ⟨hcW1, hfW1⟩ := bcell hbW1) | (go_at_call 33; refine (awake2 _).mono ?_; rintro e W2 ⟨rfl, hbW2⟩; obtain ⟨hcW2, hfW2⟩ := bcell hbW2) | (go_at_call 11; refine (awake3 _).mono ?_; rintro e W3 ⟨rfl, hbW3⟩; obtain ⟨hcW3, hfW3⟩ := bcell hbW3) | (go_at_call 12; refine (awake4 _).mono ?_; rintro e W4 ⟨rfl, hbW4⟩; obtain ⟨hcW4, hfW4⟩ := bcell hbW4) | (go_at_call 41; refine (awake5 _).mono ?_; rintro e W5 ⟨rfl, hbW5⟩))
  go_ret
  exact ⟨rfl, by (repeat (first | assumption | exact Below.refl _ _ | refine bel_drewN ?_ _ | refine bel_alloc ?_ _ | refine bel_trans ?_ (by assumption) | refine Below.trans ?_ (by assumption)))⟩
end Go.Proofs.Ytiomfkgbaemmkaa
