/-
  Chapter 21: the law LogopRedoes: its walk.
-/
import Derived.Test.YtgmipogidmcilaaDoorOpRdo
import Derived.Test.YtgmipogidmcilaaDoorWLopApp
namespace Go.Proofs.YtgmipogidmcilaaDoor
set_option linter.unusedVariables false
set_option linter.unusedSimpArgs false
open Go.RowKit Go.Sort

set_option maxRecDepth 100000 in
set_option maxHeartbeats 4000000 in
theorem wLogopRedoes (p : ByteArray) (hp : p.size ≤ maxLen) (r : Rdo) (hm : OpMax r.o) (w : World) :
    Calls Tryd.prog 8 #[.string p, .agg (rdoVs r).toArray] w fun e w' => e = .returned (.bool true) ∧ Below w.heap.size w w' := by
  obtain ⟨pl, x, n⟩ := r
  show Calls Tryd.prog 8 #[.string p, .agg #[.bool pl, .int .i64 x.k, .int .i64 x.a, .int .i64 x.e, .int .i64 x.c, .string x.o, .string x.n, .int .i64 n]] w fun e w' => e = .returned (.bool true) ∧ Below w.heap.size w w'
  dsimp only at hm
  have HAW := Lib.hid awake21_any
  have hPL := fun W => pageLike_any p W hp
  have hS := fun W => short_any x W hm.1 hm.2
  by_cases h1 : p.size ≤ 522
  · rw [decide_eq_true h1] at hPL
    have HPL := Lib.hid hPL
    clear hPL
    by_cases h2 : x.o.size ≤ 600 ∧ x.n.size ≤ 600
    · rw [short_yes h2] at hS
      have hR := fun W => Redone_any p pl n x W hp (by omega) (by omega)
      have hRR := fun W => refRedone_any p pl n x W hp (by omega) (by omega)
      obtain ⟨⟨s, d, er⟩, hsd⟩ : ∃ t, t = redo p pl n x := ⟨_, rfl⟩
      rw [← hsd] at hR hRR
      dsimp only at hR hRR
      have hPN := fun W => PageLSN_any p W hp
      have hWN := fun W => WithLSN_any p n W hp
      have hPE := fun W => PageErr_any p W hp
      have HIN := Lib.hid (fun W => IsNumber_any n W)
      have HS := Lib.hid hS
      have HR := Lib.hid hR
      have HRR := Lib.hid hRR
      clear hS hR hRR hsd h1 h2 hm
      unfold opV at HS HR HRR
      by_cases z1 : pageE p = 0
      · have hps := pageE_zero.1 z1
        have hRL := fun W => refLSN_any p W hps
        rw [z1] at hPE
        rw [z1, if_pos rfl] at hPN
        obtain ⟨m, hm⟩ : ∃ m, m = lsnL p := ⟨_, rfl⟩
        rw [← hm] at hRL hPN
        have HPE := Lib.hid hPE
        have HPN := Lib.hid hPN
        have HRL := Lib.hid hRL
        clear hPE hPN hRL hm
        cases hi : inB n 0 2147483647
        · have hw : wlE p n = 2 := by unfold wlE; rw [z1, hi]; rfl
          rw [hw, if_neg (by decide)] at hWN
          have hI := HIN.out
          rw [hi] at hI
          have HIN := Lib.hid hI
          have HWN := Lib.hid hWN
          clear hWN hw hi hI z1 hps
          go_enter Tryd.func8, Tryd.ntmps8
          go_wp2
          go_region
          go_wp2_with (first
            | ((go_at_call 12; (with_reducible refine (HAW.out _).mono ?_); rintro e W1 ⟨rfl, hbW1⟩; obtain ⟨hcW1, hfW1⟩ := bcell hbW1); have hsW1 : w.heap.size + 1 < W1.heap.size := (by have h := hbW1.size; (try simp at h); omega))
            | (go_at_call 13; (with_reducible refine (HPL.out _).mono ?_); rintro e w' ⟨rfl, rfl⟩)
            | ((go_at_call 14; (with_reducible refine (HS.out _).mono ?_); rintro e W2 ⟨rfl, hbW2⟩; obtain ⟨hcW2, hfW2⟩ := bcell hbW2); have hsW2 : w.heap.size + 1 < W2.heap.size := (by have h := hbW2.size; (try simp at h); omega))
            | ((go_at_call 37; (with_reducible refine (HR.out _).mono ?_); rintro e W3 ⟨rfl, hbW3⟩; obtain ⟨hcW3, hfW3⟩ := bcell hbW3); have hsW3 : w.heap.size + 1 < W3.heap.size := (by have h := hbW3.size; (try simp at h); omega))
            | ((go_at_call 38; (with_reducible refine (HRR.out _).mono ?_); rintro e W4 ⟨rfl, hbW4⟩; obtain ⟨hcW4, hfW4⟩ := bcell hbW4); have hsW4 : w.heap.size + 1 < W4.heap.size := (by have h := hbW4.size; (try simp at h); omega))
            | ((go_at_call 39; (with_reducible refine (HPN.out _).mono ?_); rintro e W5 ⟨rfl, hbW5⟩; obtain ⟨hcW5, hfW5⟩ := bcell hbW5); have hsW5 : w.heap.size + 1 < W5.heap.size := (by have h := hbW5.size; (try simp at h); omega))
            | ((go_at_call 40; (with_reducible refine (HWN.out _).mono ?_); rintro e W6 ⟨rfl, hbW6⟩; obtain ⟨hcW6, hfW6⟩ := bcell hbW6); have hsW6 : w.heap.size + 1 < W6.heap.size := (by have h := hbW6.size; (try simp at h); omega))
            | (go_at_call 19; (with_reducible refine (HPE.out _).mono ?_); rintro e w' ⟨rfl, rfl⟩)
            | (go_at_call 41; (with_reducible refine (HRL.out _).mono ?_); rintro e w' ⟨rfl, rfl⟩)
            | (go_at_call 42; (with_reducible refine (HIN.out _).mono ?_); rintro e w' ⟨rfl, rfl⟩)
            | (go_at_call 43; (with_reducible refine (HRW.out _).mono ?_); rintro e W7 ⟨rfl, hbW7⟩; obtain ⟨hcW7, hfW7⟩ := bcell hbW7))
          go_ret
          exact ⟨rfl, by (repeat (first | assumption | exact Below.refl _ _ | refine bel_drewN ?_ _ | refine bel_alloc ?_ _ | refine bel_trans ?_ (by assumption) | refine Below.trans ?_ (by assumption)))⟩
        · have hw : wlE p n = 0 := by unfold wlE; rw [z1, hi]; rfl
          rw [hw, if_pos rfl] at hWN
          have hI := HIN.out
          rw [hi] at hI
          have hin := inB_true.1 hi
          have hRW := fun W => refWithLSN_any p n W hps (by omega) (by omega)
          have HIN := Lib.hid hI
          have HWN := Lib.hid hWN
          have HRW := Lib.hid hRW
          clear hWN hw hi hI hin hRW z1 hps
          go_enter Tryd.func8, Tryd.ntmps8
          go_wp2
          go_region
          go_wp2_with (first
            | ((go_at_call 12; (with_reducible refine (HAW.out _).mono ?_); rintro e W1 ⟨rfl, hbW1⟩; obtain ⟨hcW1, hfW1⟩ := bcell hbW1); have hsW1 : w.heap.size + 1 < W1.heap.size := (by have h := hbW1.size; (try simp at h); omega))
            | (go_at_call 13; (with_reducible refine (HPL.out _).mono ?_); rintro e w' ⟨rfl, rfl⟩)
            | ((go_at_call 14; (with_reducible refine (HS.out _).mono ?_); rintro e W2 ⟨rfl, hbW2⟩; obtain ⟨hcW2, hfW2⟩ := bcell hbW2); have hsW2 : w.heap.size + 1 < W2.heap.size := (by have h := hbW2.size; (try simp at h); omega))
            | ((go_at_call 37; (with_reducible refine (HR.out _).mono ?_); rintro e W3 ⟨rfl, hbW3⟩; obtain ⟨hcW3, hfW3⟩ := bcell hbW3); have hsW3 : w.heap.size + 1 < W3.heap.size := (by have h := hbW3.size; (try simp at h); omega))
            | ((go_at_call 38; (with_reducible refine (HRR.out _).mono ?_); rintro e W4 ⟨rfl, hbW4⟩; obtain ⟨hcW4, hfW4⟩ := bcell hbW4); have hsW4 : w.heap.size + 1 < W4.heap.size := (by have h := hbW4.size; (try simp at h); omega))
            | ((go_at_call 39; (with_reducible refine (HPN.out _).mono ?_); rintro e W5 ⟨rfl, hbW5⟩; obtain ⟨hcW5, hfW5⟩ := bcell hbW5); have hsW5 : w.heap.size + 1 < W5.heap.size := (by have h := hbW5.size; (try simp at h); omega))
            | ((go_at_call 40; (with_reducible refine (HWN.out _).mono ?_); rintro e W6 ⟨rfl, hbW6⟩; obtain ⟨hcW6, hfW6⟩ := bcell hbW6); have hsW6 : w.heap.size + 1 < W6.heap.size := (by have h := hbW6.size; (try simp at h); omega))
            | (go_at_call 19; (with_reducible refine (HPE.out _).mono ?_); rintro e w' ⟨rfl, rfl⟩)
            | (go_at_call 41; (with_reducible refine (HRL.out _).mono ?_); rintro e w' ⟨rfl, rfl⟩)
            | (go_at_call 42; (with_reducible refine (HIN.out _).mono ?_); rintro e w' ⟨rfl, rfl⟩)
            | (go_at_call 43; (with_reducible refine (HRW.out _).mono ?_); rintro e W7 ⟨rfl, hbW7⟩; obtain ⟨hcW7, hfW7⟩ := bcell hbW7))
          go_ret
          exact ⟨rfl, by (repeat (first | assumption | exact Below.refl _ _ | refine bel_drewN ?_ _ | refine bel_alloc ?_ _ | refine bel_trans ?_ (by assumption) | refine Below.trans ?_ (by assumption)))⟩
      · have hw : wlE p n = pageE p := by unfold wlE; simp [firstE, z1]
        rw [hw, if_neg z1] at hWN
        rw [if_neg z1] at hPN
        obtain ⟨e1, he1⟩ : ∃ e, e = pageE p := ⟨_, rfl⟩
        rw [← he1] at hPE hPN hWN z1
        have hz : (e1 != 0) = true := by simp [z1]
        have HPE := Lib.hid hPE
        have HPN := Lib.hid hPN
        have HWN := Lib.hid hWN
        clear hPE hPN hWN hw z1 he1
        go_enter Tryd.func8, Tryd.ntmps8
        go_wp2
        go_region
        go_wp2_with (first
          | ((go_at_call 12; (with_reducible refine (HAW.out _).mono ?_); rintro e W1 ⟨rfl, hbW1⟩; obtain ⟨hcW1, hfW1⟩ := bcell hbW1); have hsW1 : w.heap.size + 1 < W1.heap.size := (by have h := hbW1.size; (try simp at h); omega))
          | (go_at_call 13; (with_reducible refine (HPL.out _).mono ?_); rintro e w' ⟨rfl, rfl⟩)
          | ((go_at_call 14; (with_reducible refine (HS.out _).mono ?_); rintro e W2 ⟨rfl, hbW2⟩; obtain ⟨hcW2, hfW2⟩ := bcell hbW2); have hsW2 : w.heap.size + 1 < W2.heap.size := (by have h := hbW2.size; (try simp at h); omega))
          | ((go_at_call 37; (with_reducible refine (HR.out _).mono ?_); rintro e W3 ⟨rfl, hbW3⟩; obtain ⟨hcW3, hfW3⟩ := bcell hbW3); have hsW3 : w.heap.size + 1 < W3.heap.size := (by have h := hbW3.size; (try simp at h); omega))
          | ((go_at_call 38; (with_reducible refine (HRR.out _).mono ?_); rintro e W4 ⟨rfl, hbW4⟩; obtain ⟨hcW4, hfW4⟩ := bcell hbW4); have hsW4 : w.heap.size + 1 < W4.heap.size := (by have h := hbW4.size; (try simp at h); omega))
          | ((go_at_call 39; (with_reducible refine (HPN.out _).mono ?_); rintro e W5 ⟨rfl, hbW5⟩; obtain ⟨hcW5, hfW5⟩ := bcell hbW5); have hsW5 : w.heap.size + 1 < W5.heap.size := (by have h := hbW5.size; (try simp at h); omega))
          | ((go_at_call 40; (with_reducible refine (HWN.out _).mono ?_); rintro e W6 ⟨rfl, hbW6⟩; obtain ⟨hcW6, hfW6⟩ := bcell hbW6); have hsW6 : w.heap.size + 1 < W6.heap.size := (by have h := hbW6.size; (try simp at h); omega))
          | (go_at_call 19; (with_reducible refine (HPE.out _).mono ?_); rintro e w' ⟨rfl, rfl⟩)
          | (go_at_call 41; (with_reducible refine (HRL.out _).mono ?_); rintro e w' ⟨rfl, rfl⟩)
          | (go_at_call 42; (with_reducible refine (HIN.out _).mono ?_); rintro e w' ⟨rfl, rfl⟩)
          | (go_at_call 43; (with_reducible refine (HRW.out _).mono ?_); rintro e W7 ⟨rfl, hbW7⟩; obtain ⟨hcW7, hfW7⟩ := bcell hbW7))
        go_ret
        exact ⟨rfl, by (repeat (first | assumption | exact Below.refl _ _ | refine bel_drewN ?_ _ | refine bel_alloc ?_ _ | refine bel_trans ?_ (by assumption) | refine Below.trans ?_ (by assumption)))⟩
    · rw [short_no h2] at hS
      have HS := Lib.hid hS
      clear hS h1 h2 hm
      unfold opV at HS
      go_enter Tryd.func8, Tryd.ntmps8
      go_wp2
      go_region
      go_wp2_with (first
        | ((go_at_call 12; (with_reducible refine (HAW.out _).mono ?_); rintro e W1 ⟨rfl, hbW1⟩; obtain ⟨hcW1, hfW1⟩ := bcell hbW1); have hsW1 : w.heap.size + 1 < W1.heap.size := (by have h := hbW1.size; (try simp at h); omega))
        | (go_at_call 13; (with_reducible refine (HPL.out _).mono ?_); rintro e w' ⟨rfl, rfl⟩)
        | ((go_at_call 14; (with_reducible refine (HS.out _).mono ?_); rintro e W2 ⟨rfl, hbW2⟩; obtain ⟨hcW2, hfW2⟩ := bcell hbW2); have hsW2 : w.heap.size + 1 < W2.heap.size := (by have h := hbW2.size; (try simp at h); omega))
        | ((go_at_call 37; (with_reducible refine (HR.out _).mono ?_); rintro e W3 ⟨rfl, hbW3⟩; obtain ⟨hcW3, hfW3⟩ := bcell hbW3); have hsW3 : w.heap.size + 1 < W3.heap.size := (by have h := hbW3.size; (try simp at h); omega))
        | ((go_at_call 38; (with_reducible refine (HRR.out _).mono ?_); rintro e W4 ⟨rfl, hbW4⟩; obtain ⟨hcW4, hfW4⟩ := bcell hbW4); have hsW4 : w.heap.size + 1 < W4.heap.size := (by have h := hbW4.size; (try simp at h); omega))
        | ((go_at_call 39; (with_reducible refine (HPN.out _).mono ?_); rintro e W5 ⟨rfl, hbW5⟩; obtain ⟨hcW5, hfW5⟩ := bcell hbW5); have hsW5 : w.heap.size + 1 < W5.heap.size := (by have h := hbW5.size; (try simp at h); omega))
        | ((go_at_call 40; (with_reducible refine (HWN.out _).mono ?_); rintro e W6 ⟨rfl, hbW6⟩; obtain ⟨hcW6, hfW6⟩ := bcell hbW6); have hsW6 : w.heap.size + 1 < W6.heap.size := (by have h := hbW6.size; (try simp at h); omega))
        | (go_at_call 19; (with_reducible refine (HPE.out _).mono ?_); rintro e w' ⟨rfl, rfl⟩)
        | (go_at_call 41; (with_reducible refine (HRL.out _).mono ?_); rintro e w' ⟨rfl, rfl⟩)
        | (go_at_call 42; (with_reducible refine (HIN.out _).mono ?_); rintro e w' ⟨rfl, rfl⟩)
        | (go_at_call 43; (with_reducible refine (HRW.out _).mono ?_); rintro e W7 ⟨rfl, hbW7⟩; obtain ⟨hcW7, hfW7⟩ := bcell hbW7))
      go_ret
      exact ⟨rfl, by (repeat (first | assumption | exact Below.refl _ _ | refine bel_drewN ?_ _ | refine bel_alloc ?_ _ | refine bel_trans ?_ (by assumption) | refine Below.trans ?_ (by assumption)))⟩
  · rw [decide_eq_false h1] at hPL
    have HPL := Lib.hid hPL
    clear hPL hS h1 hm
    go_enter Tryd.func8, Tryd.ntmps8
    go_wp2
    go_region
    go_wp2_with (first | (go_at_call 12; (with_reducible refine (HAW.out _).mono ?_); rintro e W1 ⟨rfl, hbW1⟩; obtain ⟨hcW1, hfW1⟩ := bcell hbW1) | (go_at_call 13; (with_reducible refine (HPL.out _).mono ?_); rintro e w' ⟨rfl, rfl⟩))
    go_ret
    exact ⟨rfl, by (repeat (first | assumption | exact Below.refl _ _ | refine bel_drewN ?_ _ | refine bel_alloc ?_ _ | refine bel_trans ?_ (by assumption) | refine Below.trans ?_ (by assumption)))⟩
end Go.Proofs.YtgmipogidmcilaaDoor
