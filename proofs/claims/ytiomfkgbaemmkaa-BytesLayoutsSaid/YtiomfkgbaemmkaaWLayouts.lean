/-
  BytesLayouts: the walk. Lst: a slice of the caller's, still there.
-/
import Derived.Test.YtiomfkgbaemmkaaAwake
import Derived.Test.YtiomfkgbaemmkaaLay4
namespace Go.Proofs.Ytiomfkgbaemmkaa
set_option linter.unusedVariables false
set_option linter.unusedSimpArgs false
open Go.RowKit Go.Sort

def Lst (w W : World) (A : Option Addr) (xs : List Value) : Prop := Below w.heap.size w W ∧ Rd W W.heap.size A xs
theorem Lst.next {w W W' : World} {A : Option Addr} {xs : List Value} (h : Lst w W A xs) (hb : Below W.heap.size W W') : Lst w W' A xs :=
  ⟨bel_trans h.1 hb, h.2.below' hb⟩
theorem own_slice {w : World} {base : Nat} {e : TypeId} {size n : Nat} {v : Value} {xs : List Value} (h : w.ownsRow base e size v n xs) : ∃ A c, v = .slice A n c ∧ Rd w w.heap.size A xs := by
  have h' := h
  rcases h.2 with ⟨rfl, h0⟩ | ⟨g, cap, cur, rfl, _⟩
  · subst h0
    exact ⟨none, 0, rfl, Rd.of_own h'⟩
  · exact ⟨_, _, rfl, Rd.of_own h'⟩

theorem CopyLayout_rd (A : Option Addr) (c : Nat) (l : List Fld) (w : World) (hlen : l.length ≤ 1000) (hr : Rd w w.heap.size A (fldsV l)) :
    Calls Try.prog 18 #[.slice A l.length c] w fun e w' =>
      ∃ A' c', e = .returned (.slice A' l.length c') ∧ Rd w' w'.heap.size A' (fldsV l) ∧ Below w.heap.size w w' :=
  (CopyLayout_any A c l w hlen hr).mono fun e w' ⟨v, he, ho, hb⟩ => by
    obtain ⟨A', c', rfl, hr'⟩ := own_slice ho
    exact ⟨A', c', he, hr', hb⟩

set_option maxRecDepth 100000 in
set_option maxHeartbeats 1000000 in
theorem wBytesLayouts_bad (A : Option Addr) (c : Nat) (l : List Fld) (w : World) (hlen : l.length ≤ 26) (hr : Rd w w.heap.size A (fldsV l)) (h : (layP l).2 ≠ 0) :
    Calls Try.prog 5 #[.slice A l.length c] w fun e w' => e = .returned (.bool true) ∧ Below w.heap.size w w' := by
  have h1 : decide ((l.length : Int) > 26) = false := by simp; omega
  have hm : l.length ≤ maxLen := by unfold maxLen; omega
  have hk : l.length ≤ 1000 := by omega
  obtain ⟨at', hat⟩ : ∃ x, x = (layP l).1 := ⟨_, rfl⟩
  obtain ⟨er, her⟩ : ∃ x, x = (layP l).2 := ⟨_, rfl⟩
  have hC := fun A c w => CheckLayout_any A c l w hm
  have hR := fun A c w => refCheckLayout_any A c l w hm
  have hO := fun A c w hr => OffsetsOf_bad A c l w hm hr h
  rw [← hat, ← her] at hC hR
  rw [← her] at hO h
  have he : (er != 0) = true := by simpa using h
  clear hat her h
  have q0 : Lst w w A (fldsV l) := ⟨Below.refl _ _, hr⟩
  clear hr
  go_enter Try.func5, Try.ntmps5
  go_wp2_with (first
    | (go_at_call 10; refine (awake_any _).mono ?_; rintro e W1 ⟨rfl, hb1⟩; have q1 := q0.next hb1; have l1 := q1.2; clear hb1)
    | (go_at_call 18; (with_reducible refine (CopyLayout_rd A c l W1 hk l1).mono ?_); rintro e W2 ⟨A2, c2, rfl, r2, hb2⟩; have q2 := q1.next hb2; have l2 := q2.2; clear hb2)
    | (go_at_call 17; (with_reducible refine (hC A2 c2 W2 r2).mono ?_); rintro e W3 ⟨rfl, hb3⟩; have q3 := q2.next hb3; have l3 := q3.2; clear hb3)
    | (go_at_call 18; (with_reducible refine (CopyLayout_rd A c l W3 hk l3).mono ?_); rintro e W4 ⟨A4, c4, rfl, r4, hb4⟩; have q4 := q3.next hb4; have l4 := q4.2; clear hb4)
    | (go_at_call 19; (with_reducible refine (hO A4 c4 W4 r4).mono ?_); rintro e W5 ⟨rfl, hb5⟩; have q5 := q4.next hb5; have l5 := q5.2; clear hb5)
    | (go_at_call 20; (with_reducible refine (hR A c W5 l5).mono ?_); rintro e W6 ⟨rfl, rfl⟩))
  go_ret
  exact ⟨rfl, q5.1⟩

set_option maxRecDepth 100000 in
set_option maxHeartbeats 1000000 in
theorem wBytesLayouts_ok (A : Option Addr) (c : Nat) (l : List Fld) (w : World) (hlen : l.length ≤ 26) (hr : Rd w w.heap.size A (fldsV l)) (h : (layP l).2 = 0) :
    Calls Try.prog 5 #[.slice A l.length c] w fun e w' => e = .returned (.bool true) ∧ Below w.heap.size w w' := by
  have h1 : decide ((l.length : Int) > 26) = false := by simp; omega
  have hm : l.length ≤ maxLen := by unfold maxLen; omega
  have hk : l.length ≤ 1000 := by omega
  have hol : (offL l).length ≤ maxLen := by
    have := (offAt_bd l (layP_small h) l.length (Nat.le_refl _)).2.2
    unfold offL; unfold maxLen; omega
  obtain ⟨at', hat⟩ : ∃ x, x = (layP l).1 := ⟨_, rfl⟩
  obtain ⟨on, hon⟩ : ∃ x, x = offN l := ⟨_, rfl⟩
  obtain ⟨ol, hol'⟩ : ∃ x, x = offL l := ⟨_, rfl⟩
  have hC := fun A c w => CheckLayout_any A c l w hm
  have hR := fun A c w => refCheckLayout_any A c l w hm
  rw [← hat, h] at hC hR
  have hO : ∀ A c w, Rd w w.heap.size A (fldsV l) → Calls Try.prog 19 #[.slice A l.length c] w fun e w' => ∃ A' c', e = .returned (.tuple #[.slice A' ol.length c', .int .i64 on, .int .i64 0]) ∧ Rd w' w'.heap.size A' (ol.map (.int .i64)) ∧ Below w.heap.size w w' :=
    fun A c w hr => (OffsetsOf_ok A c l w hm hr h).mono fun e w' ⟨v, he, ho, hb⟩ => by
      obtain ⟨A', c', rfl, hr'⟩ := own_slice ho
      rw [hon, hol']
      exact ⟨A', c', he, hr', hb⟩
  have hF : ∀ A c w, Rd w w.heap.size A (fldsV l) → Calls Try.prog 21 #[.slice A l.length c] w fun e w' => ∃ A' c', e = .returned (.tuple #[.slice A' ol.length c', .int .i64 on]) ∧ Rd w' w'.heap.size A' (ol.map (.int .i64)) ∧ Below w.heap.size w w' :=
    fun A c w hr => (refOffsets_ok A c l w hr h).mono fun e w' ⟨v, he, ho, hb⟩ => by
      obtain ⟨A', c', rfl, hr'⟩ := own_slice ho
      rw [hon, hol']
      exact ⟨A', c', he, hr', hb⟩
  have hI : ∀ A c A' c' w, Rd w w.heap.size A (ol.map (.int .i64)) → Rd w w.heap.size A' (ol.map (.int .i64)) → Calls Try.prog 22 #[.slice A ol.length c, .slice A' ol.length c'] w fun e w' => e = .returned (.bool true) ∧ Below w.heap.size w w' :=
    fun A c A' c' w k1 k2 => (Ints_any A A' c c' ol ol w (by rw [hol']; exact hol) (by rw [hol']; exact hol) k1 k2).mono fun e w' ⟨he, hb⟩ => ⟨by rw [he]; simp, hb⟩
  clear hat h hon hol' hol
  have q0 : Lst w w A (fldsV l) := ⟨Below.refl _ _, hr⟩
  clear hr
  go_enter Try.func5, Try.ntmps5
  go_wp2_with (first
    | (go_at_call 10; refine (awake_any _).mono ?_; rintro e W1 ⟨rfl, hb1⟩; have q1 := q0.next hb1; have l1 := q1.2; clear hb1)
    | (go_at_call 18; (with_reducible refine (CopyLayout_rd A c l W1 hk l1).mono ?_); rintro e W2 ⟨A2, c2, rfl, r2, hb2⟩; have q2 := q1.next hb2; have l2 := q2.2; clear hb2)
    | (go_at_call 17; (with_reducible refine (hC A2 c2 W2 r2).mono ?_); rintro e W3 ⟨rfl, hb3⟩; have q3 := q2.next hb3; have l3 := q3.2; clear hb3)
    | (go_at_call 18; (with_reducible refine (CopyLayout_rd A c l W3 hk l3).mono ?_); rintro e W4 ⟨A4, c4, rfl, r4, hb4⟩; have q4 := q3.next hb4; have l4 := q4.2; clear hb4)
    | (go_at_call 19; (with_reducible refine (hO A4 c4 W4 r4).mono ?_); rintro e W5 ⟨A5, c5, rfl, r5, hb5⟩; have q5 := q4.next hb5; have l5 := q5.2; clear hb5)
    | (go_at_call 20; (with_reducible refine (hR A c W5 l5).mono ?_); rintro e W6 ⟨rfl, rfl⟩)
    | (go_at_call 21; (with_reducible refine (hF A c W5 l5).mono ?_); rintro e W7 ⟨A7, c7, rfl, r7, hb7⟩; have q7 := q5.next hb7; have l7 := q7.2; have r75 := Rd.below' r5 hb7; clear hb7)
    | (go_at_call 22; (with_reducible refine (hI A5 c5 A7 c7 W7 r75 r7).mono ?_); rintro e W8 ⟨rfl, hb8⟩; have q8 := q7.next hb8; have l8 := q8.2; clear hb8))
  go_ret
  exact ⟨rfl, q8.1⟩
theorem wBytesLayouts (A : Option Addr) (c : Nat) (l : List Fld) (w : World) (hm : l.length ≤ maxLen) (hr : Rd w w.heap.size A (fldsV l)) :
    Calls Try.prog 5 #[.slice A l.length c] w fun e w' => e = .returned (.bool true) ∧ Below w.heap.size w w' := by
  by_cases h1 : l.length ≤ 26
  · by_cases h : (layP l).2 = 0
    · exact wBytesLayouts_ok A c l w h1 hr h
    · exact wBytesLayouts_bad A c l w h1 hr h
  · have k1 : decide ((l.length : Int) > 26) = true := by simp; omega
    go_enter Try.func5, Try.ntmps5
    go_wp2_with (go_at_call 10; refine (awake_any _).mono ?_; rintro e W1 ⟨rfl, hbW1⟩; obtain ⟨hcW1, hfW1⟩ := bcell hbW1)
    go_ret
    exact ⟨rfl, by (repeat (first | assumption | exact Below.refl _ _ | refine bel_drewN ?_ _ | refine bel_alloc ?_ _ | refine bel_trans ?_ (by assumption) | refine Below.trans ?_ (by assumption)))⟩
end Go.Proofs.Ytiomfkgbaemmkaa
