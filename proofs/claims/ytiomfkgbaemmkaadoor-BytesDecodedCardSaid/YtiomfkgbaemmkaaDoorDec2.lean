/-
  Chapter 1: the reference's bytes of values, and comparisons of values.
-/
import Derived.Test.YtiomfkgbaemmkaaDoorDec1
namespace Go.Proofs.YtiomfkgbaemmkaaDoor
set_option linter.unusedVariables false
set_option linter.unusedSimpArgs false
open Go.RowKit Go.Sort

theorem LayoutErr_any (A : Option Addr) (c : Nat) (l : List Fld) (w : World) (hlen : l.length ≤ maxLen) (hr : Rd w w.heap.size A (fldsV l)) :
    Calls Tryd.prog 28 #[.slice A l.length c] w fun e w' => e = .returned (.int .i64 (layP l).2) ∧ w = w' := by
  have HR := Lib.hid hr
  have HL := Lib.hid hlen
  clear hr hlen
  go_enter Tryd.func28, Tryd.ntmps28
  go_wp2_with (go_at_call 51; refine (refCheckLayout_any A c l _ HL.out HR.out).mono ?_; rintro e w' ⟨rfl, rfl⟩)
  go_ret
  exact ⟨rfl, rfl⟩

theorem valE_form {k z n : Int} {s : ByteArray} {ns : List Int} (h : formB k n s ns = false) : valE k z n s ns = 3 := by
  unfold valE; simp [h, firstE, unl]

set_option maxRecDepth 100000 in
set_option maxHeartbeats 2000000 in
theorem refFieldErr_bad0 (z n : Int) (s : ByteArray) (A : Option Addr) (c : Nat) (ns : List Int) (w : World) (hs : s.size ≤ maxLen) (hn : ns.length ≤ maxLen) (h : formB 0 n s ns = false) :
    Calls Tryd.prog 29 #[.agg #[.int .i64 0, .int .i64 z], .agg #[.int .i64 n, .string s, .slice A ns.length c]] w fun e w' => e = .returned (.int .i64 3) ∧ Below w.heap.size w w' := by
  unfold maxLen at hs hn
  unfold formB at h
  obtain ⟨m, hm⟩ : ∃ m, m = ns.length := ⟨_, rfl⟩
  rw [← hm] at h hn ⊢
  clear hm
  have hm0 : m = 0 ∨ 0 < m := by omega
  cases h1 : (n == 0) <;> cases h2 : s.toList.isEmpty <;> rcases hm0 with h3 | h3
  all_goals (try (exfalso; (try subst h3); simp [h1, h2] at h; done))
  all_goals
    clear h
    have h1' : (n != 0) = !(n == 0) := rfl
    rw [h1] at h1'
    clear h1
    try subst h3
    go_enter Tryd.func29, Tryd.ntmps29
    go_wp2
    go_quiet (fail)
    go_wp2
    go_ret
    exact ⟨rfl, by (repeat (first | assumption | exact Below.refl _ _ | refine bel_drewN ?_ _ | refine bel_alloc ?_ _ | refine bel_trans ?_ (by assumption) | refine Below.trans ?_ (by assumption)))⟩
set_option maxRecDepth 100000 in
set_option maxHeartbeats 2000000 in
theorem refFieldErr_bad1 (z n : Int) (s : ByteArray) (A : Option Addr) (c : Nat) (ns : List Int) (w : World) (hs : s.size ≤ maxLen) (hn : ns.length ≤ maxLen) (h : formB 1 n s ns = false) :
    Calls Tryd.prog 29 #[.agg #[.int .i64 1, .int .i64 z], .agg #[.int .i64 n, .string s, .slice A ns.length c]] w fun e w' => e = .returned (.int .i64 3) ∧ Below w.heap.size w w' := by
  unfold maxLen at hs hn
  unfold formB at h
  obtain ⟨m, hm⟩ : ∃ m, m = ns.length := ⟨_, rfl⟩
  rw [← hm] at h hn ⊢
  clear hm
  have hm0 : m = 0 ∨ 0 < m := by omega
  cases h1 : (n == 0) <;> cases h2 : s.toList.isEmpty <;> rcases hm0 with h3 | h3
  all_goals (try (exfalso; (try subst h3); simp [h1, h2] at h; done))
  all_goals
    clear h
    have h1' : (n != 0) = !(n == 0) := rfl
    rw [h1] at h1'
    clear h1
    try subst h3
    go_enter Tryd.func29, Tryd.ntmps29
    go_wp2
    go_quiet (fail)
    go_wp2
    go_ret
    exact ⟨rfl, by (repeat (first | assumption | exact Below.refl _ _ | refine bel_drewN ?_ _ | refine bel_alloc ?_ _ | refine bel_trans ?_ (by assumption) | refine Below.trans ?_ (by assumption)))⟩
set_option maxRecDepth 100000 in
set_option maxHeartbeats 2000000 in
theorem refFieldErr_bad2 (z n : Int) (s : ByteArray) (A : Option Addr) (c : Nat) (ns : List Int) (w : World) (hs : s.size ≤ maxLen) (hn : ns.length ≤ maxLen) (h : formB 2 n s ns = false) :
    Calls Tryd.prog 29 #[.agg #[.int .i64 2, .int .i64 z], .agg #[.int .i64 n, .string s, .slice A ns.length c]] w fun e w' => e = .returned (.int .i64 3) ∧ Below w.heap.size w w' := by
  unfold maxLen at hs hn
  unfold formB at h
  obtain ⟨m, hm⟩ : ∃ m, m = ns.length := ⟨_, rfl⟩
  rw [← hm] at h hn ⊢
  clear hm
  have hm0 : m = 0 ∨ 0 < m := by omega
  cases h1 : (n == 0) <;> cases h2 : s.toList.isEmpty <;> rcases hm0 with h3 | h3
  all_goals (try (exfalso; (try subst h3); simp [h1, h2] at h; done))
  all_goals
    clear h
    have h1' : (n != 0) = !(n == 0) := rfl
    rw [h1] at h1'
    clear h1
    try subst h3
    go_enter Tryd.func29, Tryd.ntmps29
    go_wp2
    go_quiet (fail)
    go_wp2
    go_ret
    exact ⟨rfl, by (repeat (first | assumption | exact Below.refl _ _ | refine bel_drewN ?_ _ | refine bel_alloc ?_ _ | refine bel_trans ?_ (by assumption) | refine Below.trans ?_ (by assumption)))⟩
set_option maxRecDepth 100000 in
set_option maxHeartbeats 2000000 in
theorem refFieldErr_bad3 (z n : Int) (s : ByteArray) (A : Option Addr) (c : Nat) (ns : List Int) (w : World) (hs : s.size ≤ maxLen) (hn : ns.length ≤ maxLen) (h : formB 3 n s ns = false) :
    Calls Tryd.prog 29 #[.agg #[.int .i64 3, .int .i64 z], .agg #[.int .i64 n, .string s, .slice A ns.length c]] w fun e w' => e = .returned (.int .i64 3) ∧ Below w.heap.size w w' := by
  unfold maxLen at hs hn
  unfold formB at h
  obtain ⟨m, hm⟩ : ∃ m, m = ns.length := ⟨_, rfl⟩
  rw [← hm] at h hn ⊢
  clear hm
  have hm0 : m = 0 ∨ 0 < m := by omega
  cases h1 : (n == 0) <;> cases h2 : s.toList.isEmpty <;> rcases hm0 with h3 | h3
  all_goals (try (exfalso; (try subst h3); simp [h1, h2] at h; done))
  all_goals
    clear h
    have h1' : (n != 0) = !(n == 0) := rfl
    rw [h1] at h1'
    clear h1
    try subst h3
    go_enter Tryd.func29, Tryd.ntmps29
    go_wp2
    go_quiet (fail)
    go_wp2
    go_ret
    exact ⟨rfl, by (repeat (first | assumption | exact Below.refl _ _ | refine bel_drewN ?_ _ | refine bel_alloc ?_ _ | refine bel_trans ?_ (by assumption) | refine Below.trans ?_ (by assumption)))⟩
set_option maxRecDepth 100000 in
set_option maxHeartbeats 2000000 in
theorem refFieldErr_bad4 (z n : Int) (s : ByteArray) (A : Option Addr) (c : Nat) (ns : List Int) (w : World) (hs : s.size ≤ maxLen) (hn : ns.length ≤ maxLen) (h : formB 4 n s ns = false) :
    Calls Tryd.prog 29 #[.agg #[.int .i64 4, .int .i64 z], .agg #[.int .i64 n, .string s, .slice A ns.length c]] w fun e w' => e = .returned (.int .i64 3) ∧ Below w.heap.size w w' := by
  unfold maxLen at hs hn
  unfold formB at h
  obtain ⟨m, hm⟩ : ∃ m, m = ns.length := ⟨_, rfl⟩
  rw [← hm] at h hn ⊢
  clear hm
  have hm0 : m = 0 ∨ 0 < m := by omega
  cases h1 : (n == 0) <;> cases h2 : s.toList.isEmpty <;> rcases hm0 with h3 | h3
  all_goals (try (exfalso; (try subst h3); simp [h1, h2] at h; done))
  all_goals
    clear h
    have h1' : (n != 0) = !(n == 0) := rfl
    rw [h1] at h1'
    clear h1
    try subst h3
    go_enter Tryd.func29, Tryd.ntmps29
    go_wp2
    go_quiet (fail)
    go_wp2
    go_ret
    exact ⟨rfl, by (repeat (first | assumption | exact Below.refl _ _ | refine bel_drewN ?_ _ | refine bel_alloc ?_ _ | refine bel_trans ?_ (by assumption) | refine Below.trans ?_ (by assumption)))⟩
end Go.Proofs.YtiomfkgbaemmkaaDoor
