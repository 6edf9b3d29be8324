/-
  Chapter 21: Apart.
-/
import Derived.Test.YtgmipogidmcilaaDoorOpTch
namespace Go.Proofs.YtgmipogidmcilaaDoor
set_option linter.unusedVariables false
set_option linter.unusedSimpArgs false
open Go.RowKit Go.Sort

theorem first2_zero {a b : Int} : firstE [a, b] = 0 ↔ a = 0 ∧ b = 0 := by
  simp only [firstE]
  by_cases h : a = 0 <;> by_cases h' : b = 0 <;> simp [h, h']
def apI (x y : Op) : Bool := if firstE [opE x, opE y] = 0 then opApart x y else false

set_option maxRecDepth 100000 in
set_option maxHeartbeats 2000000 in
theorem Apart_any (x y : Op) (w : World) (hx : x.o.size ≤ 3100 ∧ x.n.size ≤ 3100) (hy : y.o.size ≤ 3100 ∧ y.n.size ≤ 3100) :
    Calls Tryd.prog 28 #[opV x, opV y] w fun r w' => r = .returned (.tuple #[.bool (apI x y), .int .i64 (firstE [opE x, opE y])]) ∧ Below w.heap.size w w' := by
  have hE := fun W => CheckOp_any x W hx.1 hx.2
  have hF := fun W => CheckOp_any y W hy.1 hy.2
  obtain ⟨er, her⟩ : ∃ e, e = opE x := ⟨_, rfl⟩
  obtain ⟨fr, hfr⟩ : ∃ e, e = opE y := ⟨_, rfl⟩
  by_cases h0 : firstE [er, fr] = 0
  · have hz := first2_zero.1 h0
    have hT := fun W => tch_any x W ((opE_iff x).1 (her.symm.trans hz.1))
    have hU := fun W => tch_any y W ((opE_iff y).1 (hfr.symm.trans hz.2))
    have e1 : apI x y = opApart x y := by unfold apI; rw [← her, ← hfr, if_pos h0]
    have e2 : firstE [opE x, opE y] = 0 := by rw [← her, ← hfr]; exact h0
    rw [e1, e2]
    have h0' : (firstE [er, fr] != 0) = false := by simp [h0]
    obtain ⟨⟨ta, tb⟩, hta⟩ : ∃ t, t = opTch x := ⟨_, rfl⟩
    obtain ⟨⟨tc, td⟩, htb⟩ : ∃ t, t = opTch y := ⟨_, rfl⟩
    have e3 : opApart x y = decide (max ta tc ≥ min tb td) := by unfold opApart; rw [← hta, ← htb]
    rw [e3]
    rw [← hta] at hT
    rw [← htb] at hU
    rw [← her] at hE
    rw [← hfr] at hF
    have HE := Lib.hid hE
    have HF := Lib.hid hF
    have HT := Lib.hid hT
    have HU := Lib.hid hU
    clear hE hF hT hU e1 e2 e3 hta htb her hfr hz h0
    unfold opV at *
    go_enter Tryd.func28, Tryd.ntmps28
    go_wp2_with fail
    (refine wp_region_btail 4 (by kernel_rfl) (by kernel_rfl) ?_; simp only [List.take_succ_cons, List.take_zero, List.drop_succ_cons, List.drop_zero]; (repeat (go_big_quiet_step ((first | (go_at_call 21; (with_reducible exact Calls.regrown_of (HE.out _))) | (go_at_call 21; (with_reducible exact Calls.regrown_of (HF.out _))))))); (with_reducible refine wpQuiet_nil ?_); intro W1 hreg; have hbW1 := below_of_reg hreg; clear hreg; obtain ⟨hcW1, hfW1⟩ := bcell hbW1)
    have hsW1 : w.heap.size < W1.heap.size := by have h := hbW1.size; simp at h; omega
    have hsW2 : w.heap.size + 1 < W1.heap.size := by have h := hbW1.size; simp at h; omega
    go_wp2_with (first | (go_at_call 52; refine (logop_first_list [_, _] W1 (by simp)).mono ?_; rintro e w' ⟨rfl, rfl⟩) | (go_at_call 64; (with_reducible refine (HT.out _).mono ?_); rintro e W2 ⟨rfl, hbW2⟩; obtain ⟨hcW2, hfW2⟩ := bcell hbW2) | (go_at_call 64; (with_reducible refine (HU.out _).mono ?_); rintro e W3 ⟨rfl, hbW3⟩; obtain ⟨hcW3, hfW3⟩ := bcell hbW3))
    go_ret2
    exact ⟨by rfl, by (repeat (first | assumption | exact Below.refl _ _ | refine bel_drewN ?_ _ | refine bel_alloc ?_ _ | refine bel_trans ?_ (by assumption) | refine Below.trans ?_ (by assumption)))⟩
  · have e1 : apI x y = false := by unfold apI; rw [← her, ← hfr, if_neg h0]
    have h0' : (firstE [er, fr] != 0) = true := by simp [h0]
    rw [e1, ← her, ← hfr]
    rw [← her] at hE
    rw [← hfr] at hF
    have HE := Lib.hid hE
    have HF := Lib.hid hF
    clear hE hF e1 her hfr h0
    unfold opV at *
    go_enter Tryd.func28, Tryd.ntmps28
    go_wp2_with fail
    (refine wp_region_btail 4 (by kernel_rfl) (by kernel_rfl) ?_; simp only [List.take_succ_cons, List.take_zero, List.drop_succ_cons, List.drop_zero]; (repeat (go_big_quiet_step ((first | (go_at_call 21; (with_reducible exact Calls.regrown_of (HE.out _))) | (go_at_call 21; (with_reducible exact Calls.regrown_of (HF.out _))))))); (with_reducible refine wpQuiet_nil ?_); intro W1 hreg; have hbW1 := below_of_reg hreg; clear hreg; obtain ⟨hcW1, hfW1⟩ := bcell hbW1)
    go_wp2_with (first | (go_at_call 52; refine (logop_first_list [_, _] W1 (by simp)).mono ?_; rintro e w' ⟨rfl, rfl⟩))
    go_ret2
    exact ⟨by rfl, by (repeat (first | assumption | exact Below.refl _ _ | refine bel_drewN ?_ _ | refine bel_alloc ?_ _ | refine bel_trans ?_ (by assumption) | refine Below.trans ?_ (by assumption)))⟩
end Go.Proofs.YtgmipogidmcilaaDoor
