/-
  BytesStrings: the walk. Plc: a Place in a box of the law's own, still there.
-/
import Derived.Test.YtiomfkgbaemmkaaAwake
import Derived.Test.YtiomfkgbaemmkaaLawPlain
namespace Go.Proofs.Ytiomfkgbaemmkaa
set_option linter.unusedVariables false
set_option linter.unusedSimpArgs false
open Go.RowKit Go.Sort

def Plc (w W : World) (s : ByteArray) (a : Int) : Prop :=
  Below w.heap.size w W ∧ W.cell? ⟨w.heap.size, 0, none⟩ = some (.string s) ∧ W.cell? ⟨w.heap.size, 1, none⟩ = some (.int .i64 a) ∧ w.heap.size < W.heap.size
theorem Plc.first (w : World) (s : ByteArray) (a : Int) (T : TypeId) : Plc w (w.alloc (.cells #[.string s, .int .i64 a] T)) s a :=
  ⟨bel_alloc (Below.refl _ _) _, by rw [cell_of_row _ _ _ _ _ _ (heap_alloc_new w _)]; rfl, by rw [cell_of_row _ _ _ _ _ _ (heap_alloc_new w _)]; rfl, by simp⟩
theorem Plc.next {w W W' : World} {s : ByteArray} {a : Int} (h : Plc w W s a) (hb : Below W.heap.size W W') : Plc w W' s a :=
  ⟨h.1.trans (hb.mono (by have := h.2.2.2; omega)), by rw [(bcell hb).1 _ _ h.2.2.2]; exact h.2.1, by rw [(bcell hb).1 _ _ h.2.2.2]; exact h.2.2.1, by have := hb.size; have := h.2.2.2; omega⟩

set_option maxRecDepth 100000 in
theorem wBytesStrings_few (s b : ByteArray) (a u : Int) (w : World) (hs : s.size ≤ 300) (hb : b.size ≤ 300) (hu : u ≤ 1000) :
    Calls Try.prog 6 #[.agg #[.string s, .int .i64 a], .string b, .int .i64 u] w fun e w' => e = .returned (.bool true) ∧ Below w.heap.size w w' := by
  have hms : s.size ≤ maxLen := by unfold maxLen; omega
  have hmb : b.size ≤ maxLen := by unfold maxLen; omega
  have h1 : decide ((s.size : Int) > 300) = false := by simp; omega
  have h2 : decide ((b.size : Int) > 300) = false := by simp; omega
  have h3 : decide (u > 1000) = false := by simp; omega
  have hP := fun W => Patched_any s b a W hms hmb
  have hE := fun W => PatchErr_any s b a W hms hmb
  by_cases h4 : patE s a b = 0
  · obtain ⟨g1, g2, g3, g4⟩ := patE_zero h4
    obtain ⟨k, rfl⟩ := Int.eq_ofNat_of_zero_le g3
    have e : patR s k b = patS s k b := by simp [patR, h4]
    rw [h4, e] at hP
    rw [h4] at hE
    have hL := fun W => Patch_any s b k W (by omega) (by omega)
    clear h4 e g1 g2 g3 g4
    have pW0 := Plc.first w s k 46
    go_enter Try.func6, Try.ntmps6
    go_wp2_with (first | (go_at_call 10; refine (awake_any _).mono ?_; rintro e W1 ⟨rfl, hbW1⟩; have pW1 := Plc.next pW0 hbW1; obtain ⟨_, hxW1, hyW1, _⟩ := id pW1; clear hbW1) | (go_at_call 16; refine (hP _).mono ?_; rintro e W2 ⟨rfl, hbW2⟩; have pW2 := Plc.next pW1 hbW2; obtain ⟨_, hxW2, hyW2, _⟩ := id pW2; clear hbW2) | (go_at_call 23; refine (PaddedTo_any s u _ hms hu).mono ?_; rintro e W3 ⟨rfl, hbW3⟩; have pW3 := Plc.next pW2 hbW3; obtain ⟨_, hxW3, hyW3, _⟩ := id pW3; clear hbW3) | (go_at_call 24; refine (Padded_any s u _ hms hu).mono ?_; rintro e W4 ⟨rfl, hbW4⟩; have pW4 := Plc.next pW3 hbW4; obtain ⟨_, hxW4, hyW4, _⟩ := id pW4; clear hbW4) | (go_at_call 25; refine (hE _).mono ?_; rintro e w' ⟨rfl, rfl⟩) | (go_at_call 26; refine (hL _).mono ?_; rintro e W5 ⟨rfl, hbW5⟩; have pW5 := Plc.next pW4 hbW5; obtain ⟨_, hxW5, hyW5, _⟩ := id pW5; clear hbW5))
    go_ret
    exact ⟨rfl, pW5.1⟩
  · have e : patR s a b = ⟨#[]⟩ := by simp [patR, h4]
    rw [e] at hP
    obtain ⟨c, hc⟩ : ∃ c, c = patE s a b := ⟨_, rfl⟩
    rw [← hc] at hP hE
    have h4' : (c == 0) = false := by rw [hc]; simpa using h4
    have h5 : (c != 0) = true := by rw [hc]; simpa using h4
    clear h4 e hc
    have pW0 := Plc.first w s a 46
    go_enter Try.func6, Try.ntmps6
    go_wp2_with (first | (go_at_call 10; refine (awake_any _).mono ?_; rintro e W1 ⟨rfl, hbW1⟩; have pW1 := Plc.next pW0 hbW1; obtain ⟨_, hxW1, hyW1, _⟩ := id pW1; clear hbW1) | (go_at_call 16; refine (hP _).mono ?_; rintro e W2 ⟨rfl, hbW2⟩; have pW2 := Plc.next pW1 hbW2; obtain ⟨_, hxW2, hyW2, _⟩ := id pW2; clear hbW2) | (go_at_call 23; refine (PaddedTo_any s u _ hms hu).mono ?_; rintro e W3 ⟨rfl, hbW3⟩; have pW3 := Plc.next pW2 hbW3; obtain ⟨_, hxW3, hyW3, _⟩ := id pW3; clear hbW3) | (go_at_call 24; refine (Padded_any s u _ hms hu).mono ?_; rintro e W4 ⟨rfl, hbW4⟩; have pW4 := Plc.next pW3 hbW4; obtain ⟨_, hxW4, hyW4, _⟩ := id pW4; clear hbW4) | (go_at_call 25; refine (hE _).mono ?_; rintro e w' ⟨rfl, rfl⟩))
    go_ret
    exact ⟨rfl, pW4.1⟩
theorem wBytesStrings (s b : ByteArray) (a u : Int) (w : World) :
    Calls Try.prog 6 #[.agg #[.string s, .int .i64 a], .string b, .int .i64 u] w fun e w' => e = .returned (.bool true) ∧ Below w.heap.size w w' := by
  by_cases h1 : s.size ≤ 300
  · by_cases h2 : b.size ≤ 300
    · by_cases h3 : u ≤ 1000
      · exact wBytesStrings_few s b a u w h1 h2 h3
      · have k1 : decide ((s.size : Int) > 300) = false := by simp; omega
        have k2 : decide ((b.size : Int) > 300) = false := by simp; omega
        have k3 : decide (u > 1000) = true := by simp; omega
        have pW0 := Plc.first w s a 46
        go_enter Try.func6, Try.ntmps6
        go_wp2_with (go_at_call 10; refine (awake_any _).mono ?_; rintro e W1 ⟨rfl, hbW1⟩; have pW1 := Plc.next pW0 hbW1; obtain ⟨_, hxW1, hyW1, _⟩ := id pW1; clear hbW1)
        go_ret
        exact ⟨rfl, pW1.1⟩
    · have k1 : decide ((s.size : Int) > 300) = false := by simp; omega
      have k2 : decide ((b.size : Int) > 300) = true := by simp; omega
      have pW0 := Plc.first w s a 46
      go_enter Try.func6, Try.ntmps6
      go_wp2_with (go_at_call 10; refine (awake_any _).mono ?_; rintro e W1 ⟨rfl, hbW1⟩; have pW1 := Plc.next pW0 hbW1; obtain ⟨_, hxW1, hyW1, _⟩ := id pW1; clear hbW1)
      go_ret
      exact ⟨rfl, pW1.1⟩
  · have k1 : decide ((s.size : Int) > 300) = true := by simp; omega
    have pW0 := Plc.first w s a 46
    go_enter Try.func6, Try.ntmps6
    go_wp2_with (go_at_call 10; refine (awake_any _).mono ?_; rintro e W1 ⟨rfl, hbW1⟩; have pW1 := Plc.next pW0 hbW1; obtain ⟨_, hxW1, hyW1, _⟩ := id pW1; clear hbW1)
    go_ret
    exact ⟨rfl, pW1.1⟩
end Go.Proofs.Ytiomfkgbaemmkaa
