/-
  Chapter 21: the law LogopApart: its walk.
-/
import Derived.Test.YtgmipogidmcilaaDoorOpLaw
import Derived.Test.YtgmipogidmcilaaDoorOpApart
namespace Go.Proofs.YtgmipogidmcilaaDoor
set_option linter.unusedVariables false
set_option linter.unusedSimpArgs false
open Go.RowKit Go.Sort

theorem short_no {x : Op} (h : ¬ (x.o.size ≤ 600 ∧ x.n.size ≤ 600)) : (decide (x.o.size ≤ 600) && decide (x.n.size ≤ 600)) = false := by
  by_cases h1 : x.o.size ≤ 600
  · have h2 : ¬ x.n.size ≤ 600 := fun g => h ⟨h1, g⟩
    simp [h2]
  · simp [h1]
theorem all_two {p : ByteArray} {x y : Op} (hp : p.size = 512) (hx : opE x = 0) (hy : opE y = 0) (fx : opFit p x = true) (fy : opFit (opDo p x) y = true) : opAll p [x, y] = (opDo (opDo p x) y, 2, 0) := by
  rw [opAll_ok hp (by simp), opAllG_next hx fx, opAllG_next hy fy]; rfl
theorem two_rd (x y : Op) (W : World) : Rd (W.alloc (.cells #[.int .i64 x.k, .int .i64 x.a, .int .i64 x.e, .int .i64 x.c, .string x.o, .string x.n, .int .i64 y.k, .int .i64 y.a, .int .i64 y.e, .int .i64 y.c, .string y.o, .string y.n] 27)) (W.alloc (.cells #[.int .i64 x.k, .int .i64 x.a, .int .i64 x.e, .int .i64 x.c, .string x.o, .string x.n, .int .i64 y.k, .int .i64 y.a, .int .i64 y.e, .int .i64 y.c, .string y.o, .string y.n] 27)).heap.size (some ⟨W.heap.size, 0, none⟩) (opsV [x, y]) := by
  intro j u hj
  refine ⟨W.heap.size, 0, rfl, by simp, ?_⟩
  have hlt : j < 12 := by
    have := (List.getElem?_eq_some_iff.1 hj).1
    simpa [opsV, opVs] using this
  have : j = 0 ∨ j = 1 ∨ j = 2 ∨ j = 3 ∨ j = 4 ∨ j = 5 ∨ j = 6 ∨ j = 7 ∨ j = 8 ∨ j = 9 ∨ j = 10 ∨ j = 11 := by omega
  rcases this with rfl | rfl | rfl | rfl | rfl | rfl | rfl | rfl | rfl | rfl | rfl | rfl <;> (simp [opsV, opVs] at hj; simp [hj])
theorem opsV_two (x y : Op) : opsV [x, y] = opVs x ++ opVs y := by simp [opsV]

set_option maxRecDepth 100000 in
set_option maxHeartbeats 4000000 in
theorem wLogopApart (p : ByteArray) (x y : Op) (hp : p.size ≤ maxLen) (ho : x.o.size ≤ maxLen) (hn : x.n.size ≤ maxLen) (ho' : y.o.size ≤ maxLen) (hn' : y.n.size ≤ maxLen) (w : World) :
    Calls Tryd.prog 6 #[.string p, opV x, opV y] w fun e w' => e = .returned (.bool true) ∧ Below w.heap.size w w' := by
  have HAW : Hid _ := Lib.hid awake21_any
  have hP := fun W => PageErr_any p W hp
  by_cases h1 : ¬ (p.size = 512)
  · obtain ⟨pe, hpe⟩ : ∃ e, e = pageE p := ⟨_, rfl⟩
    have h1' : (pe != 0) = true := by
      have : pe ≠ 0 := fun h => h1 (pageE_zero.1 (hpe.symm.trans h))
      simp [this]
    rw [← hpe] at hP
    have HP := Lib.hid hP
    clear hP hpe h1 hp ho hn ho' hn'
    unfold opV at *
    go_enter Tryd.func6, Tryd.ntmps6
    go_wp2_with (first | ((go_at_call 12; (with_reducible refine (HAW.out _).mono ?_); rintro e W1 ⟨rfl, hbW1⟩; obtain ⟨hcW1, hfW1⟩ := bcell hbW1); have hsW1 : w.heap.size + 1 < W1.heap.size := (by have h := hbW1.size; (try simp at h); omega); have htW1 : w.heap.size < W1.heap.size := (by omega)) | (go_at_call 19; (with_reducible refine (HP.out _).mono ?_); rintro e w' ⟨rfl, rfl⟩))
    go_ret
    exact ⟨rfl, by (repeat (first | assumption | exact Below.refl _ _ | refine bel_drewN ?_ _ | refine bel_alloc ?_ _ | refine bel_trans ?_ (by assumption) | refine Below.trans ?_ (by assumption)))⟩
  replace h1 := Decidable.not_not.1 h1
  rw [pageE_zero.2 h1] at hP
  have HP := Lib.hid hP
  clear hP
  have hSX := fun W => short_any x W ho hn
  by_cases h2 : ¬ (x.o.size ≤ 600 ∧ x.n.size ≤ 600)
  · rw [short_no h2] at hSX
    have HSX := Lib.hid hSX
    clear hSX h1 h2 hp ho hn ho' hn'
    unfold opV at *
    go_enter Tryd.func6, Tryd.ntmps6
    go_wp2_with (first | ((go_at_call 12; (with_reducible refine (HAW.out _).mono ?_); rintro e W1 ⟨rfl, hbW1⟩; obtain ⟨hcW1, hfW1⟩ := bcell hbW1); have hsW1 : w.heap.size + 1 < W1.heap.size := (by have h := hbW1.size; (try simp at h); omega); have htW1 : w.heap.size < W1.heap.size := (by omega)) | (go_at_call 19; (with_reducible refine (HP.out _).mono ?_); rintro e w' ⟨rfl, rfl⟩) | ((go_at_call 14; (with_reducible refine (HSX.out _).mono ?_); rintro e W2 ⟨rfl, hbW2⟩; obtain ⟨hcW2, hfW2⟩ := bcell hbW2); have hsW2 : w.heap.size + 1 < W2.heap.size := (by have h := hbW2.size; (try simp at h); omega); have htW2 : w.heap.size < W2.heap.size := (by omega)))
    go_ret
    exact ⟨rfl, by (repeat (first | assumption | exact Below.refl _ _ | refine bel_drewN ?_ _ | refine bel_alloc ?_ _ | refine bel_trans ?_ (by assumption) | refine Below.trans ?_ (by assumption)))⟩
  replace h2 := Decidable.not_not.1 h2
  rw [show (decide (x.o.size ≤ 600) && decide (x.n.size ≤ 600)) = true by simp [h2.1, h2.2]] at hSX
  have HSX := Lib.hid hSX
  clear hSX
  have hSY := fun W => short_any y W ho' hn'
  by_cases h3 : ¬ (y.o.size ≤ 600 ∧ y.n.size ≤ 600)
  · rw [short_no h3] at hSY
    have HSY := Lib.hid hSY
    clear hSY h1 h2 h3 hp ho hn ho' hn'
    unfold opV at *
    go_enter Tryd.func6, Tryd.ntmps6
    go_wp2_with (first | ((go_at_call 12; (with_reducible refine (HAW.out _).mono ?_); rintro e W1 ⟨rfl, hbW1⟩; obtain ⟨hcW1, hfW1⟩ := bcell hbW1); have hsW1 : w.heap.size + 1 < W1.heap.size := (by have h := hbW1.size; (try simp at h); omega); have htW1 : w.heap.size < W1.heap.size := (by omega)) | (go_at_call 19; (with_reducible refine (HP.out _).mono ?_); rintro e w' ⟨rfl, rfl⟩) | ((go_at_call 14; (with_reducible refine (HSX.out _).mono ?_); rintro e W2 ⟨rfl, hbW2⟩; obtain ⟨hcW2, hfW2⟩ := bcell hbW2); have hsW2 : w.heap.size + 1 < W2.heap.size := (by have h := hbW2.size; (try simp at h); omega); have htW2 : w.heap.size < W2.heap.size := (by omega)) | ((go_at_call 14; (with_reducible refine (HSY.out _).mono ?_); rintro e W3 ⟨rfl, hbW3⟩; obtain ⟨hcW3, hfW3⟩ := bcell hbW3); have hsW3 : w.heap.size + 1 < W3.heap.size := (by have h := hbW3.size; (try simp at h); omega); have htW3 : w.heap.size < W3.heap.size := (by omega)))
    go_ret
    exact ⟨rfl, by (repeat (first | assumption | exact Below.refl _ _ | refine bel_drewN ?_ _ | refine bel_alloc ?_ _ | refine bel_trans ?_ (by assumption) | refine Below.trans ?_ (by assumption)))⟩
  replace h3 := Decidable.not_not.1 h3
  rw [show (decide (y.o.size ≤ 600) && decide (y.n.size ≤ 600)) = true by simp [h3.1, h3.2]] at hSY
  have HSY := Lib.hid hSY
  clear hSY
  have hEX := fun W => refOpErr_any x W (by omega) (by omega)
  by_cases h4 : ¬ (opE x = 0)
  · obtain ⟨er, her⟩ : ∃ e, e = opE x := ⟨_, rfl⟩
    rw [← her] at hEX h4
    have h4' : (er != 0) = true := by simp [h4]
    have HEX := Lib.hid hEX
    clear hEX her h1 h2 h3 h4 hp ho hn ho' hn'
    unfold opV at *
    go_enter Tryd.func6, Tryd.ntmps6
    go_wp2_with (first | ((go_at_call 12; (with_reducible refine (HAW.out _).mono ?_); rintro e W1 ⟨rfl, hbW1⟩; obtain ⟨hcW1, hfW1⟩ := bcell hbW1); have hsW1 : w.heap.size + 1 < W1.heap.size := (by have h := hbW1.size; (try simp at h); omega); have htW1 : w.heap.size < W1.heap.size := (by omega)) | (go_at_call 19; (with_reducible refine (HP.out _).mono ?_); rintro e w' ⟨rfl, rfl⟩) | ((go_at_call 14; (with_reducible refine (HSX.out _).mono ?_); rintro e W2 ⟨rfl, hbW2⟩; obtain ⟨hcW2, hfW2⟩ := bcell hbW2); have hsW2 : w.heap.size + 1 < W2.heap.size := (by have h := hbW2.size; (try simp at h); omega); have htW2 : w.heap.size < W2.heap.size := (by omega)) | ((go_at_call 14; (with_reducible refine (HSY.out _).mono ?_); rintro e W3 ⟨rfl, hbW3⟩; obtain ⟨hcW3, hfW3⟩ := bcell hbW3); have hsW3 : w.heap.size + 1 < W3.heap.size := (by have h := hbW3.size; (try simp at h); omega); have htW3 : w.heap.size < W3.heap.size := (by omega)) | ((go_at_call 23; (with_reducible refine (HEX.out _).mono ?_); rintro e W4 ⟨rfl, hbW4⟩; obtain ⟨hcW4, hfW4⟩ := bcell hbW4); have hsW4 : w.heap.size + 1 < W4.heap.size := (by have h := hbW4.size; (try simp at h); omega); have htW4 : w.heap.size < W4.heap.size := (by omega)))
    go_ret
    exact ⟨rfl, by (repeat (first | assumption | exact Below.refl _ _ | refine bel_drewN ?_ _ | refine bel_alloc ?_ _ | refine bel_trans ?_ (by assumption) | refine Below.trans ?_ (by assumption)))⟩
  replace h4 := Decidable.not_not.1 h4
  rw [h4] at hEX
  have HEX := Lib.hid hEX
  clear hEX
  have hEY := fun W => refOpErr_any y W (by omega) (by omega)
  by_cases h5 : ¬ (opE y = 0)
  · obtain ⟨er, her⟩ : ∃ e, e = opE y := ⟨_, rfl⟩
    rw [← her] at hEY h5
    have h5' : (er != 0) = true := by simp [h5]
    have HEY := Lib.hid hEY
    clear hEY her h1 h2 h3 h4 h5 hp ho hn ho' hn'
    unfold opV at *
    go_enter Tryd.func6, Tryd.ntmps6
    go_wp2_with (first | ((go_at_call 12; (with_reducible refine (HAW.out _).mono ?_); rintro e W1 ⟨rfl, hbW1⟩; obtain ⟨hcW1, hfW1⟩ := bcell hbW1); have hsW1 : w.heap.size + 1 < W1.heap.size := (by have h := hbW1.size; (try simp at h); omega); have htW1 : w.heap.size < W1.heap.size := (by omega)) | (go_at_call 19; (with_reducible refine (HP.out _).mono ?_); rintro e w' ⟨rfl, rfl⟩) | ((go_at_call 14; (with_reducible refine (HSX.out _).mono ?_); rintro e W2 ⟨rfl, hbW2⟩; obtain ⟨hcW2, hfW2⟩ := bcell hbW2); have hsW2 : w.heap.size + 1 < W2.heap.size := (by have h := hbW2.size; (try simp at h); omega); have htW2 : w.heap.size < W2.heap.size := (by omega)) | ((go_at_call 14; (with_reducible refine (HSY.out _).mono ?_); rintro e W3 ⟨rfl, hbW3⟩; obtain ⟨hcW3, hfW3⟩ := bcell hbW3); have hsW3 : w.heap.size + 1 < W3.heap.size := (by have h := hbW3.size; (try simp at h); omega); have htW3 : w.heap.size < W3.heap.size := (by omega)) | ((go_at_call 23; (with_reducible refine (HEX.out _).mono ?_); rintro e W4 ⟨rfl, hbW4⟩; obtain ⟨hcW4, hfW4⟩ := bcell hbW4); have hsW4 : w.heap.size + 1 < W4.heap.size := (by have h := hbW4.size; (try simp at h); omega); have htW4 : w.heap.size < W4.heap.size := (by omega)) | ((go_at_call 23; (with_reducible refine (HEY.out _).mono ?_); rintro e W5 ⟨rfl, hbW5⟩; obtain ⟨hcW5, hfW5⟩ := bcell hbW5); have hsW5 : w.heap.size + 1 < W5.heap.size := (by have h := hbW5.size; (try simp at h); omega); have htW5 : w.heap.size < W5.heap.size := (by omega)))
    go_ret
    exact ⟨rfl, by (repeat (first | assumption | exact Below.refl _ _ | refine bel_drewN ?_ _ | refine bel_alloc ?_ _ | refine bel_trans ?_ (by assumption) | refine Below.trans ?_ (by assumption)))⟩
  replace h5 := Decidable.not_not.1 h5
  rw [h5] at hEY
  have HEY := Lib.hid hEY
  clear hEY
  have ok4 := (opE_iff x).1 h4
  have ok5 := (opE_iff y).1 h5
  have hFX := fun W => Fits_any p x W h1 ok4
  cases h6 : opFit p x
  · rw [h6] at hFX
    have HFX := Lib.hid hFX
    clear hFX ok4 ok5 h1 h2 h3 h4 h5 h6 hp ho hn ho' hn'
    unfold opV at *
    go_enter Tryd.func6, Tryd.ntmps6
    go_wp2_with (first | ((go_at_call 12; (with_reducible refine (HAW.out _).mono ?_); rintro e W1 ⟨rfl, hbW1⟩; obtain ⟨hcW1, hfW1⟩ := bcell hbW1); have hsW1 : w.heap.size + 1 < W1.heap.size := (by have h := hbW1.size; (try simp at h); omega); have htW1 : w.heap.size < W1.heap.size := (by omega)) | (go_at_call 19; (with_reducible refine (HP.out _).mono ?_); rintro e w' ⟨rfl, rfl⟩) | ((go_at_call 14; (with_reducible refine (HSX.out _).mono ?_); rintro e W2 ⟨rfl, hbW2⟩; obtain ⟨hcW2, hfW2⟩ := bcell hbW2); have hsW2 : w.heap.size + 1 < W2.heap.size := (by have h := hbW2.size; (try simp at h); omega); have htW2 : w.heap.size < W2.heap.size := (by omega)) | ((go_at_call 14; (with_reducible refine (HSY.out _).mono ?_); rintro e W3 ⟨rfl, hbW3⟩; obtain ⟨hcW3, hfW3⟩ := bcell hbW3); have hsW3 : w.heap.size + 1 < W3.heap.size := (by have h := hbW3.size; (try simp at h); omega); have htW3 : w.heap.size < W3.heap.size := (by omega)) | ((go_at_call 23; (with_reducible refine (HEX.out _).mono ?_); rintro e W4 ⟨rfl, hbW4⟩; obtain ⟨hcW4, hfW4⟩ := bcell hbW4); have hsW4 : w.heap.size + 1 < W4.heap.size := (by have h := hbW4.size; (try simp at h); omega); have htW4 : w.heap.size < W4.heap.size := (by omega)) | ((go_at_call 23; (with_reducible refine (HEY.out _).mono ?_); rintro e W5 ⟨rfl, hbW5⟩; obtain ⟨hcW5, hfW5⟩ := bcell hbW5); have hsW5 : w.heap.size + 1 < W5.heap.size := (by have h := hbW5.size; (try simp at h); omega); have htW5 : w.heap.size < W5.heap.size := (by omega)) | ((go_at_call 30; (with_reducible refine (HFX.out _).mono ?_); rintro e W6 ⟨rfl, hbW6⟩; obtain ⟨hcW6, hfW6⟩ := bcell hbW6); have hsW6 : w.heap.size + 1 < W6.heap.size := (by have h := hbW6.size; (try simp at h); omega); have htW6 : w.heap.size < W6.heap.size := (by omega)))
    go_ret
    exact ⟨rfl, by (repeat (first | assumption | exact Below.refl _ _ | refine bel_drewN ?_ _ | refine bel_alloc ?_ _ | refine bel_trans ?_ (by assumption) | refine Below.trans ?_ (by assumption)))⟩
  rw [h6] at hFX
  have HFX := Lib.hid hFX
  clear hFX
  have hFY := fun W => Fits_any p y W h1 ok5
  cases h7 : opFit p y
  · rw [h7] at hFY
    have HFY := Lib.hid hFY
    clear hFY ok4 ok5 h1 h2 h3 h4 h5 h6 h7 hp ho hn ho' hn'
    unfold opV at *
    go_enter Tryd.func6, Tryd.ntmps6
    go_wp2_with (first | ((go_at_call 12; (with_reducible refine (HAW.out _).mono ?_); rintro e W1 ⟨rfl, hbW1⟩; obtain ⟨hcW1, hfW1⟩ := bcell hbW1); have hsW1 : w.heap.size + 1 < W1.heap.size := (by have h := hbW1.size; (try simp at h); omega); have htW1 : w.heap.size < W1.heap.size := (by omega)) | (go_at_call 19; (with_reducible refine (HP.out _).mono ?_); rintro e w' ⟨rfl, rfl⟩) | ((go_at_call 14; (with_reducible refine (HSX.out _).mono ?_); rintro e W2 ⟨rfl, hbW2⟩; obtain ⟨hcW2, hfW2⟩ := bcell hbW2); have hsW2 : w.heap.size + 1 < W2.heap.size := (by have h := hbW2.size; (try simp at h); omega); have htW2 : w.heap.size < W2.heap.size := (by omega)) | ((go_at_call 14; (with_reducible refine (HSY.out _).mono ?_); rintro e W3 ⟨rfl, hbW3⟩; obtain ⟨hcW3, hfW3⟩ := bcell hbW3); have hsW3 : w.heap.size + 1 < W3.heap.size := (by have h := hbW3.size; (try simp at h); omega); have htW3 : w.heap.size < W3.heap.size := (by omega)) | ((go_at_call 23; (with_reducible refine (HEX.out _).mono ?_); rintro e W4 ⟨rfl, hbW4⟩; obtain ⟨hcW4, hfW4⟩ := bcell hbW4); have hsW4 : w.heap.size + 1 < W4.heap.size := (by have h := hbW4.size; (try simp at h); omega); have htW4 : w.heap.size < W4.heap.size := (by omega)) | ((go_at_call 23; (with_reducible refine (HEY.out _).mono ?_); rintro e W5 ⟨rfl, hbW5⟩; obtain ⟨hcW5, hfW5⟩ := bcell hbW5); have hsW5 : w.heap.size + 1 < W5.heap.size := (by have h := hbW5.size; (try simp at h); omega); have htW5 : w.heap.size < W5.heap.size := (by omega)) | ((go_at_call 30; (with_reducible refine (HFX.out _).mono ?_); rintro e W6 ⟨rfl, hbW6⟩; obtain ⟨hcW6, hfW6⟩ := bcell hbW6); have hsW6 : w.heap.size + 1 < W6.heap.size := (by have h := hbW6.size; (try simp at h); omega); have htW6 : w.heap.size < W6.heap.size := (by omega)) | ((go_at_call 30; (with_reducible refine (HFY.out _).mono ?_); rintro e W7 ⟨rfl, hbW7⟩; obtain ⟨hcW7, hfW7⟩ := bcell hbW7); have hsW7 : w.heap.size + 1 < W7.heap.size := (by have h := hbW7.size; (try simp at h); omega); have htW7 : w.heap.size < W7.heap.size := (by omega)))
    go_ret
    exact ⟨rfl, by (repeat (first | assumption | exact Below.refl _ _ | refine bel_drewN ?_ _ | refine bel_alloc ?_ _ | refine bel_trans ?_ (by assumption) | refine Below.trans ?_ (by assumption)))⟩
  rw [h7] at hFY
  have HFY := Lib.hid hFY
  clear hFY
  have hA1 := fun W => Apart_any x y W ⟨by omega, by omega⟩ ⟨by omega, by omega⟩
  have hA2 := fun W => Apart_any y x W ⟨by omega, by omega⟩ ⟨by omega, by omega⟩
  have e1 : firstE [opE x, opE y] = 0 := first2_zero.2 ⟨h4, h5⟩
  have e2 : firstE [opE y, opE x] = 0 := first2_zero.2 ⟨h5, h4⟩
  have e3 : apI x y = opApart x y := by unfold apI; rw [if_pos e1]
  have e4 : apI y x = opApart x y := by unfold apI; rw [if_pos e2, opApart_comm]
  rw [e1, e3] at hA1
  rw [e2, e4] at hA2
  cases h8 : opApart x y
  · rw [h8] at hA1 hA2
    have HA1 := Lib.hid hA1
    have HA2 := Lib.hid hA2
    clear hA1 hA2 e1 e2 e3 e4 ok4 ok5 h1 h2 h3 h4 h5 h6 h7 h8 hp ho hn ho' hn'
    unfold opV at *
    go_enter Tryd.func6, Tryd.ntmps6
    go_wp2_with (first | ((go_at_call 12; (with_reducible refine (HAW.out _).mono ?_); rintro e W1 ⟨rfl, hbW1⟩; obtain ⟨hcW1, hfW1⟩ := bcell hbW1); have hsW1 : w.heap.size + 1 < W1.heap.size := (by have h := hbW1.size; (try simp at h); omega); have htW1 : w.heap.size < W1.heap.size := (by omega)) | (go_at_call 19; (with_reducible refine (HP.out _).mono ?_); rintro e w' ⟨rfl, rfl⟩) | ((go_at_call 14; (with_reducible refine (HSX.out _).mono ?_); rintro e W2 ⟨rfl, hbW2⟩; obtain ⟨hcW2, hfW2⟩ := bcell hbW2); have hsW2 : w.heap.size + 1 < W2.heap.size := (by have h := hbW2.size; (try simp at h); omega); have htW2 : w.heap.size < W2.heap.size := (by omega)) | ((go_at_call 14; (with_reducible refine (HSY.out _).mono ?_); rintro e W3 ⟨rfl, hbW3⟩; obtain ⟨hcW3, hfW3⟩ := bcell hbW3); have hsW3 : w.heap.size + 1 < W3.heap.size := (by have h := hbW3.size; (try simp at h); omega); have htW3 : w.heap.size < W3.heap.size := (by omega)) | ((go_at_call 23; (with_reducible refine (HEX.out _).mono ?_); rintro e W4 ⟨rfl, hbW4⟩; obtain ⟨hcW4, hfW4⟩ := bcell hbW4); have hsW4 : w.heap.size + 1 < W4.heap.size := (by have h := hbW4.size; (try simp at h); omega); have htW4 : w.heap.size < W4.heap.size := (by omega)) | ((go_at_call 23; (with_reducible refine (HEY.out _).mono ?_); rintro e W5 ⟨rfl, hbW5⟩; obtain ⟨hcW5, hfW5⟩ := bcell hbW5); have hsW5 : w.heap.size + 1 < W5.heap.size := (by have h := hbW5.size; (try simp at h); omega); have htW5 : w.heap.size < W5.heap.size := (by omega)) | ((go_at_call 30; (with_reducible refine (HFX.out _).mono ?_); rintro e W6 ⟨rfl, hbW6⟩; obtain ⟨hcW6, hfW6⟩ := bcell hbW6); have hsW6 : w.heap.size + 1 < W6.heap.size := (by have h := hbW6.size; (try simp at h); omega); have htW6 : w.heap.size < W6.heap.size := (by omega)) | ((go_at_call 30; (with_reducible refine (HFY.out _).mono ?_); rintro e W7 ⟨rfl, hbW7⟩; obtain ⟨hcW7, hfW7⟩ := bcell hbW7); have hsW7 : w.heap.size + 1 < W7.heap.size := (by have h := hbW7.size; (try simp at h); omega); have htW7 : w.heap.size < W7.heap.size := (by omega)) | ((go_at_call 28; (with_reducible refine (HA1.out _).mono ?_); rintro e W8 ⟨rfl, hbW8⟩; obtain ⟨hcW8, hfW8⟩ := bcell hbW8); have hsW8 : w.heap.size + 1 < W8.heap.size := (by have h := hbW8.size; (try simp at h); omega); have htW8 : w.heap.size < W8.heap.size := (by omega)) | ((go_at_call 28; (with_reducible refine (HA2.out _).mono ?_); rintro e W9 ⟨rfl, hbW9⟩; obtain ⟨hcW9, hfW9⟩ := bcell hbW9); have hsW9 : w.heap.size + 1 < W9.heap.size := (by have h := hbW9.size; (try simp at h); omega); have htW9 : w.heap.size < W9.heap.size := (by omega)))
    go_ret
    exact ⟨rfl, by (repeat (first | assumption | exact Below.refl _ _ | refine bel_drewN ?_ _ | refine bel_alloc ?_ _ | refine bel_trans ?_ (by assumption) | refine Below.trans ?_ (by assumption)))⟩
  rw [h8] at hA1 hA2
  have HA1 := Lib.hid hA1
  have HA2 := Lib.hid hA2
  have c1 := op_comm h1 ok4 ok5 (opApart_off ok4 ok5 h8)
  have c2 := op_comm h1 ok5 ok4 (opApart_off ok5 ok4 (by rw [opApart_comm]; exact h8))
  have a1 := all_two h1 h4 h5 h6 (c1.1.trans h7)
  have a2 := all_two h1 h5 h4 h7 (c2.1.trans h6)
  rw [← c1.2] at a2
  have hL1 : ∀ A c W, Rd W W.heap.size A (opsV [x, y]) → Calls Tryd.prog 15 #[.string p, .slice A 2 c] W fun e w' => e = .returned (.tuple #[.string (opDo (opDo p x) y), .int .i64 2, .int .i64 0]) ∧ Below W.heap.size W w' := fun A c W hr => by
    have h := AppliedAll_ok p A c [x, y] W h1 (by simp) (by intro k hk; match k, hk with | 0, _ => exact ⟨by show x.o.size ≤ 3100; omega, by show x.n.size ≤ 3100; omega⟩ | 1, _ => exact ⟨by show y.o.size ≤ 3100; omega, by show y.n.size ≤ 3100; omega⟩) hr
    rw [a1] at h
    exact h
  have hL2 : ∀ A c W, Rd W W.heap.size A (opsV [y, x]) → Calls Tryd.prog 15 #[.string p, .slice A 2 c] W fun e w' => e = .returned (.tuple #[.string (opDo (opDo p x) y), .int .i64 2, .int .i64 0]) ∧ Below W.heap.size W w' := fun A c W hr => by
    have h := AppliedAll_ok p A c [y, x] W h1 (by simp) (by intro k hk; match k, hk with | 0, _ => exact ⟨by show y.o.size ≤ 3100; omega, by show y.n.size ≤ 3100; omega⟩ | 1, _ => exact ⟨by show x.o.size ≤ 3100; omega, by show x.n.size ≤ 3100; omega⟩) hr
    rw [a2] at h
    exact h
  obtain ⟨s, hs⟩ : ∃ s, s = opDo (opDo p x) y := ⟨_, rfl⟩
  have hsz : s.size ≤ 512 := by rw [hs, opDo_size (opDo_size h1 ok4) ok5]; omega
  rw [← hs] at hL1 hL2
  have HL1 := Lib.hid hL1
  have HL2 := Lib.hid hL2
  clear hA1 hA2 hL1 hL2 a1 a2 c1 c2 hs e1 e2 e3 e4 ok4 ok5 h1 h2 h3 h4 h5 h6 h7 h8 hp ho hn ho' hn'
  unfold opV at *
  go_enter Tryd.func6, Tryd.ntmps6
  go_wp2_with (first | ((go_at_call 12; (with_reducible refine (HAW.out _).mono ?_); rintro e W1 ⟨rfl, hbW1⟩; obtain ⟨hcW1, hfW1⟩ := bcell hbW1); have hsW1 : w.heap.size + 1 < W1.heap.size := (by have h := hbW1.size; (try simp at h); omega); have htW1 : w.heap.size < W1.heap.size := (by omega)) | (go_at_call 19; (with_reducible refine (HP.out _).mono ?_); rintro e w' ⟨rfl, rfl⟩) | ((go_at_call 14; (with_reducible refine (HSX.out _).mono ?_); rintro e W2 ⟨rfl, hbW2⟩; obtain ⟨hcW2, hfW2⟩ := bcell hbW2); have hsW2 : w.heap.size + 1 < W2.heap.size := (by have h := hbW2.size; (try simp at h); omega); have htW2 : w.heap.size < W2.heap.size := (by omega)) | ((go_at_call 14; (with_reducible refine (HSY.out _).mono ?_); rintro e W3 ⟨rfl, hbW3⟩; obtain ⟨hcW3, hfW3⟩ := bcell hbW3); have hsW3 : w.heap.size + 1 < W3.heap.size := (by have h := hbW3.size; (try simp at h); omega); have htW3 : w.heap.size < W3.heap.size := (by omega)) | ((go_at_call 23; (with_reducible refine (HEX.out _).mono ?_); rintro e W4 ⟨rfl, hbW4⟩; obtain ⟨hcW4, hfW4⟩ := bcell hbW4); have hsW4 : w.heap.size + 1 < W4.heap.size := (by have h := hbW4.size; (try simp at h); omega); have htW4 : w.heap.size < W4.heap.size := (by omega)) | ((go_at_call 23; (with_reducible refine (HEY.out _).mono ?_); rintro e W5 ⟨rfl, hbW5⟩; obtain ⟨hcW5, hfW5⟩ := bcell hbW5); have hsW5 : w.heap.size + 1 < W5.heap.size := (by have h := hbW5.size; (try simp at h); omega); have htW5 : w.heap.size < W5.heap.size := (by omega)) | ((go_at_call 30; (with_reducible refine (HFX.out _).mono ?_); rintro e W6 ⟨rfl, hbW6⟩; obtain ⟨hcW6, hfW6⟩ := bcell hbW6); have hsW6 : w.heap.size + 1 < W6.heap.size := (by have h := hbW6.size; (try simp at h); omega); have htW6 : w.heap.size < W6.heap.size := (by omega)) | ((go_at_call 30; (with_reducible refine (HFY.out _).mono ?_); rintro e W7 ⟨rfl, hbW7⟩; obtain ⟨hcW7, hfW7⟩ := bcell hbW7); have hsW7 : w.heap.size + 1 < W7.heap.size := (by have h := hbW7.size; (try simp at h); omega); have htW7 : w.heap.size < W7.heap.size := (by omega)) | ((go_at_call 28; (with_reducible refine (HA1.out _).mono ?_); rintro e W8 ⟨rfl, hbW8⟩; obtain ⟨hcW8, hfW8⟩ := bcell hbW8); have hsW8 : w.heap.size + 1 < W8.heap.size := (by have h := hbW8.size; (try simp at h); omega); have htW8 : w.heap.size < W8.heap.size := (by omega)) | ((go_at_call 28; (with_reducible refine (HA2.out _).mono ?_); rintro e W9 ⟨rfl, hbW9⟩; obtain ⟨hcW9, hfW9⟩ := bcell hbW9); have hsW9 : w.heap.size + 1 < W9.heap.size := (by have h := hbW9.size; (try simp at h); omega); have htW9 : w.heap.size < W9.heap.size := (by omega)) | (go_at_call 15; (with_reducible refine (HL1.out _ _ _ (two_rd x y _)).mono ?_); rintro e W10 ⟨rfl, hbW10⟩; obtain ⟨hcW10, hfW10⟩ := bcell hbW10; have hsW10 : w.heap.size + 1 < W10.heap.size := (by have h := hbW10.size; (try simp at h); omega); have htW10 : w.heap.size < W10.heap.size := (by omega)) | (go_at_call 15; (with_reducible refine (HL2.out _ _ _ (two_rd y x _)).mono ?_); rintro e W11 ⟨rfl, hbW11⟩))
  go_ret
  exact ⟨rfl, by (repeat (first | assumption | exact Below.refl _ _ | refine bel_drewN ?_ _ | refine bel_alloc ?_ _ | refine bel_trans ?_ (by assumption) | refine Below.trans ?_ (by assumption)))⟩
end Go.Proofs.YtgmipogidmcilaaDoor
