/-
  Chapter 21: the law LogopErrors: its walk.
-/
import Derived.Test.YtgmipogidmcilaaDoorOpLaw
import Derived.Test.YtgmipogidmcilaaDoorOpInv2
namespace Go.Proofs.YtgmipogidmcilaaDoor
set_option linter.unusedVariables false
set_option linter.unusedSimpArgs false
open Go.RowKit Go.Sort

set_option maxRecDepth 100000 in
set_option maxHeartbeats 2000000 in
theorem wLogopErrors (x : Op) (ho : x.o.size ≤ maxLen) (hn : x.n.size ≤ maxLen) (w : World) :
    Calls Tryd.prog 4 #[opV x] w fun e w' => e = .returned (.bool true) ∧ Below w.heap.size w w' := by
  have hS := fun W => short_any x W ho hn
  have HS := Lib.hid hS
  clear hS
  by_cases hsh : x.o.size ≤ 600 ∧ x.n.size ≤ 600
  · have hb : (decide (x.o.size ≤ 600) && decide (x.n.size ≤ 600)) = true := by simp [hsh.1, hsh.2]
    have hS := HS.out
    rw [hb] at hS
    have HS := Lib.hid hS
    clear hS hb
    have hE := fun W => CheckOp_any x W (by omega) (by omega)
    have hR := fun W => refOpErr_any x W (by omega) (by omega)
    obtain ⟨er, her⟩ : ∃ e, e = opE x := ⟨_, rfl⟩
    rw [← her] at hE hR
    by_cases h0 : er = 0
    · have hz := her.symm.trans h0
      have hI := fun W => Inverse_ok x W hz
      have hRI := fun W => refInverse_ok x W hz
      obtain ⟨y, hy⟩ : ∃ y, y = opInv x := ⟨_, rfl⟩
      rw [← hy] at hI hRI
      subst h0
      have HE := Lib.hid hE
      have HR := Lib.hid hR
      have HI := Lib.hid hI
      have HRI := Lib.hid hRI
      clear hE hR hI hRI hy hz her ho hn hsh
      unfold opV at *
      go_enter Tryd.func4, Tryd.ntmps4
      go_wp2_with (first | (go_at_call 12; (with_reducible refine (awake21_any _).mono ?_); rintro e W1 ⟨rfl, hbW1⟩; obtain ⟨hcW1, hfW1⟩ := bcell hbW1; have hsW1 : w.heap.size < W1.heap.size := (by have h := hbW1.size; simp at h; omega)) | ((go_at_call 14; (with_reducible refine (HS.out _).mono ?_); rintro e W2 ⟨rfl, hbW2⟩; obtain ⟨hcW2, hfW2⟩ := bcell hbW2); have hsW2 : w.heap.size < W2.heap.size := (by have h := hbW2.size; omega)) | ((go_at_call 21; (with_reducible refine (HE.out _).mono ?_); rintro e W3 ⟨rfl, hbW3⟩; obtain ⟨hcW3, hfW3⟩ := bcell hbW3); have hsW3 : w.heap.size < W3.heap.size := (by have h := hbW3.size; omega)) | ((go_at_call 22; (with_reducible refine (HI.out _).mono ?_); rintro e W4 ⟨rfl, hbW4⟩; obtain ⟨hcW4, hfW4⟩ := bcell hbW4); have hsW4 : w.heap.size < W4.heap.size := (by have h := hbW4.size; omega)) | ((go_at_call 23; (with_reducible refine (HR.out _).mono ?_); rintro e W5 ⟨rfl, hbW5⟩; obtain ⟨hcW5, hfW5⟩ := bcell hbW5); have hsW5 : W4.heap.size < W5.heap.size := (by have h := hbW5.size; simp at h; omega); have hsW6 : w.heap.size < W5.heap.size := (by omega)))
      (refine wp_region_quiet_below (by kernel_rfl) (by kernel_rfl) ?_; (repeat (go_big_quiet_step ((first | (go_at_call 24; exact Calls.regrown_of (HRI.out _)))))); (with_reducible refine wpQuiet_nil ?_); intro W7 hreg; have hbW7 := below_of_reg hreg; clear hreg; obtain ⟨hcW7, hfW7⟩ := bcell hbW7)
      go_wp2
      go_ret
      exact ⟨rfl, by (repeat (first | assumption | exact Below.refl _ _ | refine bel_drewN ?_ _ | refine bel_alloc ?_ _ | refine bel_trans ?_ (by assumption) | refine Below.trans ?_ (by assumption)))⟩
    · have h0' : (er != 0) = true := by simp [h0]
      have hI := fun W => Inverse_bad x W (by omega) (by omega) (by rw [← her]; exact h0)
      rw [← her] at hI
      have HE := Lib.hid hE
      have HR := Lib.hid hR
      have HI := Lib.hid hI
      clear hE hR hI her h0 ho hn hsh
      unfold op0 at HI
      unfold opV at *
      go_enter Tryd.func4, Tryd.ntmps4
      go_wp2_with (first | (go_at_call 12; (with_reducible refine (awake21_any _).mono ?_); rintro e W1 ⟨rfl, hbW1⟩; obtain ⟨hcW1, hfW1⟩ := bcell hbW1; have hsW1 : w.heap.size < W1.heap.size := (by have h := hbW1.size; simp at h; omega)) | ((go_at_call 14; (with_reducible refine (HS.out _).mono ?_); rintro e W2 ⟨rfl, hbW2⟩; obtain ⟨hcW2, hfW2⟩ := bcell hbW2); have hsW2 : w.heap.size < W2.heap.size := (by have h := hbW2.size; omega)) | ((go_at_call 21; (with_reducible refine (HE.out _).mono ?_); rintro e W3 ⟨rfl, hbW3⟩; obtain ⟨hcW3, hfW3⟩ := bcell hbW3); have hsW3 : w.heap.size < W3.heap.size := (by have h := hbW3.size; omega)) | ((go_at_call 22; (with_reducible refine (HI.out _).mono ?_); rintro e W4 ⟨rfl, hbW4⟩; obtain ⟨hcW4, hfW4⟩ := bcell hbW4); have hsW4 : w.heap.size < W4.heap.size := (by have h := hbW4.size; omega)) | ((go_at_call 23; (with_reducible refine (HR.out _).mono ?_); rintro e W5 ⟨rfl, hbW5⟩; obtain ⟨hcW5, hfW5⟩ := bcell hbW5); have hsW5 : W4.heap.size < W5.heap.size := (by have h := hbW5.size; simp at h; omega); have hsW6 : w.heap.size < W5.heap.size := (by omega)))
      go_ret
      exact ⟨rfl, by (repeat (first | assumption | exact Below.refl _ _ | refine bel_drewN ?_ _ | refine bel_alloc ?_ _ | refine bel_trans ?_ (by assumption) | refine Below.trans ?_ (by assumption)))⟩
  · have hb : (decide (x.o.size ≤ 600) && decide (x.n.size ≤ 600)) = false := by
      by_cases h1 : x.o.size ≤ 600
      · have h2 : ¬ x.n.size ≤ 600 := fun h => hsh ⟨h1, h⟩
        simp [h2]
      · simp [h1]
    have hS := HS.out
    rw [hb] at hS
    have HS := Lib.hid hS
    clear hS hb hsh ho hn
    unfold opV at *
    go_enter Tryd.func4, Tryd.ntmps4
    go_wp2_with (first | (go_at_call 12; (with_reducible refine (awake21_any _).mono ?_); rintro e W1 ⟨rfl, hbW1⟩; obtain ⟨hcW1, hfW1⟩ := bcell hbW1; have hsW1 : w.heap.size < W1.heap.size := (by have h := hbW1.size; simp at h; omega)) | ((go_at_call 14; (with_reducible refine (HS.out _).mono ?_); rintro e W2 ⟨rfl, hbW2⟩; obtain ⟨hcW2, hfW2⟩ := bcell hbW2); have hsW2 : w.heap.size < W2.heap.size := (by have h := hbW2.size; omega)))
    go_ret
    exact ⟨rfl, by (repeat (first | assumption | exact Below.refl _ _ | refine bel_drewN ?_ _ | refine bel_alloc ?_ _ | refine bel_trans ?_ (by assumption) | refine Below.trans ?_ (by assumption)))⟩
end Go.Proofs.YtgmipogidmcilaaDoor
