/-
  Chapter 21: the law LogopBetween: its walk.
-/
import Derived.Test.YtgmipogidmcilaaDoorWLopApp
namespace Go.Proofs.YtgmipogidmcilaaDoor
set_option linter.unusedVariables false
set_option linter.unusedSimpArgs false
open Go.RowKit Go.Sort

def op2V (x y : Op) : Value := .agg #[.int .i64 x.k, .int .i64 x.a, .int .i64 x.e, .int .i64 x.c, .string x.o, .string x.n, .int .i64 y.k, .int .i64 y.a, .int .i64 y.e, .int .i64 y.c, .string y.o, .string y.n]
theorem pageE_max (a b : ByteArray) : max (pageE a) (pageE b) = firstE [pageE a, pageE b] := by
  unfold pageE
  cases a.size == 512 <;> cases b.size == 512 <;> rfl
theorem Between_bad' (a b : ByteArray) (w : World) (ha : a.size ≤ maxLen) (hb : b.size ≤ maxLen) (er : Int) (h : firstE [pageE a, pageE b] = er) (h0 : er ≠ 0) :
    Calls Tryd.prog 25 #[.string a, .string b] w fun r w' => r = .returned (.tuple #[.slice none 0 0, .int .i64 er]) ∧ Below w.heap.size w w' := by
  subst h
  exact Between_bad a b w ha hb h0
/-- what Apart answers: three ways -/
theorem apart_ways (x y : Op) : (∃ e, opE x = e ∧ e ≠ 0 ∧ firstE [opE x, opE y] = e ∧ apI x y = false) ∨ (∃ e, opE x = 0 ∧ opE y = e ∧ e ≠ 0 ∧ firstE [opE x, opE y] = e ∧ apI x y = false) ∨
    (opE x = 0 ∧ opE y = 0 ∧ firstE [opE x, opE y] = 0 ∧ apI x y = opApart x y) := by
  by_cases h1 : opE x = 0
  · by_cases h2 : opE y = 0
    · right; right
      have e : firstE [opE x, opE y] = 0 := first2_zero.2 ⟨h1, h2⟩
      exact ⟨h1, h2, e, by unfold apI; rw [if_pos e]⟩
    · right; left
      have e : firstE [opE x, opE y] = opE y := by rw [h1]; simp [firstE, h2]
      exact ⟨_, h1, rfl, h2, e, by unfold apI; rw [if_neg (by rw [e]; exact h2)]⟩
  · left
    have e : firstE [opE x, opE y] = opE x := by simp [firstE, h1]
    exact ⟨_, rfl, h1, e, by unfold apI; rw [if_neg (by rw [e]; exact h1)]⟩

set_option maxRecDepth 100000 in
set_option maxHeartbeats 4000000 in
theorem wLogopBetween_main (a b : ByteArray) (ha : a.size ≤ maxLen) (hb : b.size ≤ maxLen) (x y : Op) (w : World) (h1 : a.size ≤ 522) (h2 : b.size ≤ 522) (h3 : x.o.size ≤ 600 ∧ x.n.size ≤ 600) (h4 : y.o.size ≤ 600 ∧ y.n.size ≤ 600) :
    Calls Tryd.prog 5 #[.string a, .string b, op2V x y] w fun e w' => e = .returned (.bool true) ∧ Below w.heap.size w w' := by
  have HAW := Lib.hid awake21_any
  have hPA := fun W => pageLike_any a W ha
  have hPB := fun W => pageLike_any b W hb
  have hS := fun W => short_any x W (by unfold maxLen; omega) (by unfold maxLen; omega)
  have hT := fun W => short_any y W (by unfold maxLen; omega) (by unfold maxLen; omega)
  rw [decide_eq_true h1] at hPA
  rw [decide_eq_true h2] at hPB
  rw [short_yes h3] at hS
  rw [short_yes h4] at hT
  have hEA := fun W => PageErr_any a W ha
  have hEB := fun W => PageErr_any b W hb
  have hAP := fun W => Apart_any x y W ⟨by omega, by omega⟩ ⟨by omega, by omega⟩
  have hOX := fun W => refOpErr_any x W (by omega) (by omega)
  have hOY := fun W => refOpErr_any y W (by omega) (by omega)
  have HPA := Lib.hid hPA
  have HPB := Lib.hid hPB
  have hmax := pageE_max a b
  have hwy := apart_ways x y
  clear hPA hPB h1 h2 h3 h4
  unfold op2V
  by_cases h0 : firstE [pageE a, pageE b] = 0
  · obtain ⟨z1, z2⟩ := first2_zero.1 h0
    have hBO := fun W => Between_ok a b W (pageE_zero.1 z1) (pageE_zero.1 z2)
    have hRB := fun W => refBetween_any a b W (pageE_zero.1 z1) (pageE_zero.1 z2)
    obtain ⟨L, hL⟩ : ∃ L, L = between a b := ⟨_, rfl⟩
    have hLl : L.length ≤ 100000 := by rw [hL]; have := betL_length a b 513 0; unfold between; omega
    have hSO := fun A A' c c' W h h' => SameOps_same A A' c c' L W hLl h h'
    rw [← hL] at hBO hRB
    rw [z1] at hEA
    rw [z2] at hEB
    have HBO := Lib.hid hBO
    have HRB := Lib.hid hRB
    have HSO := Lib.hid hSO
    have HEA := Lib.hid hEA
    have HEB := Lib.hid hEB
    clear hBO hRB hSO hEA hEB z1 z2 h0 hmax hL
    rcases hwy with ⟨e, g1, g2, g3, g4⟩ | ⟨e, g1, g2, g3, g4, g5⟩ | ⟨g1, g2, g3, g4⟩
    · have g5 : (e != 0) = true := by simp [g2]
      rw [g3, g4] at hAP
      rw [g1] at hOX
      unfold opV at hS hT hAP hOX hOY
      have HS := Lib.hid hS
      have HT := Lib.hid hT
      have HAP := Lib.hid hAP
      have HOX := Lib.hid hOX
      clear hS hT hAP hOX hOY g1 g2 g3 g4
      go_enter Tryd.func5, Tryd.ntmps5
      go_wp2_with (first
        | ((go_at_call 12; (with_reducible refine (HAW.out _).mono ?_); rintro e W1 ⟨rfl, hbW1⟩; obtain ⟨hcW1, hfW1⟩ := bcell hbW1); have hsW1 : w.heap.size < W1.heap.size := (by have h := hbW1.size; (try simp at h); omega))
        | (go_at_call 13; (with_reducible refine (HPA.out _).mono ?_); rintro e w' ⟨rfl, rfl⟩)
        | (go_at_call 13; (with_reducible refine (HPB.out _).mono ?_); rintro e w' ⟨rfl, rfl⟩)
        | ((go_at_call 14; (with_reducible refine (HS.out _).mono ?_); rintro e W2 ⟨rfl, hbW2⟩; obtain ⟨hcW2, hfW2⟩ := bcell hbW2); have hsW2 : w.heap.size < W2.heap.size := (by have h := hbW2.size; (try simp at h); omega))
        | ((go_at_call 14; (with_reducible refine (HT.out _).mono ?_); rintro e W3 ⟨rfl, hbW3⟩; obtain ⟨hcW3, hfW3⟩ := bcell hbW3); have hsW3 : w.heap.size < W3.heap.size := (by have h := hbW3.size; (try simp at h); omega))
        | (go_at_call 25; (with_reducible refine (HBO.out _).mono ?_); rintro e W4 ⟨A4, c4, rfl, r4, hbW4⟩; obtain ⟨hcW4, hfW4⟩ := bcell hbW4; have hsW4 : w.heap.size < W4.heap.size := (by have h := hbW4.size; (try simp at h); omega))
        | (go_at_call 19; (with_reducible refine (HEA.out _).mono ?_); rintro e w' ⟨rfl, rfl⟩)
        | (go_at_call 19; (with_reducible refine (HEB.out _).mono ?_); rintro e w' ⟨rfl, rfl⟩)
        | (go_at_call 27; (with_reducible refine (HRB.out _).mono ?_); rintro e W5 ⟨A5, c5, rfl, r5, hbW5⟩; have r45 := Rd.below' r4 hbW5; obtain ⟨hcW5, hfW5⟩ := bcell hbW5; have hsW5 : w.heap.size < W5.heap.size := (by have h := hbW5.size; (try simp at h); omega))
        | ((go_at_call 26; (with_reducible refine (HSO.out A4 A5 c4 c5 W5 r45 r5).mono ?_); rintro e W6 ⟨rfl, hbW6⟩; obtain ⟨hcW6, hfW6⟩ := bcell hbW6); have hsW6 : w.heap.size < W6.heap.size := (by have h := hbW6.size; (try simp at h); omega))
        | ((go_at_call 28; (with_reducible refine (HAP.out _).mono ?_); rintro e W7 ⟨rfl, hbW7⟩; obtain ⟨hcW7, hfW7⟩ := bcell hbW7); have hsW7 : w.heap.size < W7.heap.size := (by have h := hbW7.size; (try simp at h); omega))
        | ((go_at_call 23; (with_reducible refine (HOX.out _).mono ?_); rintro e W8 ⟨rfl, hbW8⟩; obtain ⟨hcW8, hfW8⟩ := bcell hbW8); have hsW8 : w.heap.size < W8.heap.size := (by have h := hbW8.size; (try simp at h); omega))
        | ((go_at_call 23; (with_reducible refine (HOY.out _).mono ?_); rintro e W9 ⟨rfl, hbW9⟩; obtain ⟨hcW9, hfW9⟩ := bcell hbW9); have hsW9 : w.heap.size < W9.heap.size := (by have h := hbW9.size; (try simp at h); omega))
        | ((go_at_call 29; (with_reducible refine (HAA.out _).mono ?_); rintro e W10 ⟨rfl, hbW10⟩; obtain ⟨hcW10, hfW10⟩ := bcell hbW10); have hsW10 : w.heap.size < W10.heap.size := (by have h := hbW10.size; (try simp at h); omega)))
      go_ret
      exact ⟨rfl, by (repeat (first | assumption | exact Below.refl _ _ | refine bel_drewN ?_ _ | refine bel_alloc ?_ _ | refine bel_trans ?_ (by assumption) | refine Below.trans ?_ (by assumption)))⟩
    · have g6 : (e != 0) = true := by simp [g3]
      rw [g4, g5] at hAP
      rw [g1] at hOX
      rw [g2] at hOY
      unfold opV at hS hT hAP hOX hOY
      have HS := Lib.hid hS
      have HT := Lib.hid hT
      have HAP := Lib.hid hAP
      have HOX := Lib.hid hOX
      have HOY := Lib.hid hOY
      clear hS hT hAP hOX hOY g1 g2 g3 g4 g5
      go_enter Tryd.func5, Tryd.ntmps5
      go_wp2_with (first
        | ((go_at_call 12; (with_reducible refine (HAW.out _).mono ?_); rintro e W1 ⟨rfl, hbW1⟩; obtain ⟨hcW1, hfW1⟩ := bcell hbW1); have hsW1 : w.heap.size < W1.heap.size := (by have h := hbW1.size; (try simp at h); omega))
        | (go_at_call 13; (with_reducible refine (HPA.out _).mono ?_); rintro e w' ⟨rfl, rfl⟩)
        | (go_at_call 13; (with_reducible refine (HPB.out _).mono ?_); rintro e w' ⟨rfl, rfl⟩)
        | ((go_at_call 14; (with_reducible refine (HS.out _).mono ?_); rintro e W2 ⟨rfl, hbW2⟩; obtain ⟨hcW2, hfW2⟩ := bcell hbW2); have hsW2 : w.heap.size < W2.heap.size := (by have h := hbW2.size; (try simp at h); omega))
        | ((go_at_call 14; (with_reducible refine (HT.out _).mono ?_); rintro e W3 ⟨rfl, hbW3⟩; obtain ⟨hcW3, hfW3⟩ := bcell hbW3); have hsW3 : w.heap.size < W3.heap.size := (by have h := hbW3.size; (try simp at h); omega))
        | (go_at_call 25; (with_reducible refine (HBO.out _).mono ?_); rintro e W4 ⟨A4, c4, rfl, r4, hbW4⟩; obtain ⟨hcW4, hfW4⟩ := bcell hbW4; have hsW4 : w.heap.size < W4.heap.size := (by have h := hbW4.size; (try simp at h); omega))
        | (go_at_call 19; (with_reducible refine (HEA.out _).mono ?_); rintro e w' ⟨rfl, rfl⟩)
        | (go_at_call 19; (with_reducible refine (HEB.out _).mono ?_); rintro e w' ⟨rfl, rfl⟩)
        | (go_at_call 27; (with_reducible refine (HRB.out _).mono ?_); rintro e W5 ⟨A5, c5, rfl, r5, hbW5⟩; have r45 := Rd.below' r4 hbW5; obtain ⟨hcW5, hfW5⟩ := bcell hbW5; have hsW5 : w.heap.size < W5.heap.size := (by have h := hbW5.size; (try simp at h); omega))
        | ((go_at_call 26; (with_reducible refine (HSO.out A4 A5 c4 c5 W5 r45 r5).mono ?_); rintro e W6 ⟨rfl, hbW6⟩; obtain ⟨hcW6, hfW6⟩ := bcell hbW6); have hsW6 : w.heap.size < W6.heap.size := (by have h := hbW6.size; (try simp at h); omega))
        | ((go_at_call 28; (with_reducible refine (HAP.out _).mono ?_); rintro e W7 ⟨rfl, hbW7⟩; obtain ⟨hcW7, hfW7⟩ := bcell hbW7); have hsW7 : w.heap.size < W7.heap.size := (by have h := hbW7.size; (try simp at h); omega))
        | ((go_at_call 23; (with_reducible refine (HOX.out _).mono ?_); rintro e W8 ⟨rfl, hbW8⟩; obtain ⟨hcW8, hfW8⟩ := bcell hbW8); have hsW8 : w.heap.size < W8.heap.size := (by have h := hbW8.size; (try simp at h); omega))
        | ((go_at_call 23; (with_reducible refine (HOY.out _).mono ?_); rintro e W9 ⟨rfl, hbW9⟩; obtain ⟨hcW9, hfW9⟩ := bcell hbW9); have hsW9 : w.heap.size < W9.heap.size := (by have h := hbW9.size; (try simp at h); omega))
        | ((go_at_call 29; (with_reducible refine (HAA.out _).mono ?_); rintro e W10 ⟨rfl, hbW10⟩; obtain ⟨hcW10, hfW10⟩ := bcell hbW10); have hsW10 : w.heap.size < W10.heap.size := (by have h := hbW10.size; (try simp at h); omega)))
      go_ret
      exact ⟨rfl, by (repeat (first | assumption | exact Below.refl _ _ | refine bel_drewN ?_ _ | refine bel_alloc ?_ _ | refine bel_trans ?_ (by assumption) | refine Below.trans ?_ (by assumption)))⟩
    · have hAA := fun W => refApart_any x y W ((opE_iff x).1 g1) ((opE_iff y).1 g2)
      obtain ⟨bb, hbb⟩ : ∃ b, b = opApart x y := ⟨_, rfl⟩
      rw [g3, g4, ← hbb] at hAP
      rw [← hbb] at hAA
      rw [g1] at hOX
      rw [g2] at hOY
      unfold opV at hS hT hAP hOX hOY hAA
      have HS := Lib.hid hS
      have HT := Lib.hid hT
      have HAP := Lib.hid hAP
      have HOX := Lib.hid hOX
      have HOY := Lib.hid hOY
      have HAA := Lib.hid hAA
      clear hS hT hAP hOX hOY hAA g1 g2 g3 g4 hbb
      go_enter Tryd.func5, Tryd.ntmps5
      go_wp2_with (first
        | ((go_at_call 12; (with_reducible refine (HAW.out _).mono ?_); rintro e W1 ⟨rfl, hbW1⟩; obtain ⟨hcW1, hfW1⟩ := bcell hbW1); have hsW1 : w.heap.size < W1.heap.size := (by have h := hbW1.size; (try simp at h); omega))
        | (go_at_call 13; (with_reducible refine (HPA.out _).mono ?_); rintro e w' ⟨rfl, rfl⟩)
        | (go_at_call 13; (with_reducible refine (HPB.out _).mono ?_); rintro e w' ⟨rfl, rfl⟩)
        | ((go_at_call 14; (with_reducible refine (HS.out _).mono ?_); rintro e W2 ⟨rfl, hbW2⟩; obtain ⟨hcW2, hfW2⟩ := bcell hbW2); have hsW2 : w.heap.size < W2.heap.size := (by have h := hbW2.size; (try simp at h); omega))
        | ((go_at_call 14; (with_reducible refine (HT.out _).mono ?_); rintro e W3 ⟨rfl, hbW3⟩; obtain ⟨hcW3, hfW3⟩ := bcell hbW3); have hsW3 : w.heap.size < W3.heap.size := (by have h := hbW3.size; (try simp at h); omega))
        | (go_at_call 25; (with_reducible refine (HBO.out _).mono ?_); rintro e W4 ⟨A4, c4, rfl, r4, hbW4⟩; obtain ⟨hcW4, hfW4⟩ := bcell hbW4; have hsW4 : w.heap.size < W4.heap.size := (by have h := hbW4.size; (try simp at h); omega))
        | (go_at_call 19; (with_reducible refine (HEA.out _).mono ?_); rintro e w' ⟨rfl, rfl⟩)
        | (go_at_call 19; (with_reducible refine (HEB.out _).mono ?_); rintro e w' ⟨rfl, rfl⟩)
        | (go_at_call 27; (with_reducible refine (HRB.out _).mono ?_); rintro e W5 ⟨A5, c5, rfl, r5, hbW5⟩; have r45 := Rd.below' r4 hbW5; obtain ⟨hcW5, hfW5⟩ := bcell hbW5; have hsW5 : w.heap.size < W5.heap.size := (by have h := hbW5.size; (try simp at h); omega))
        | ((go_at_call 26; (with_reducible refine (HSO.out A4 A5 c4 c5 W5 r45 r5).mono ?_); rintro e W6 ⟨rfl, hbW6⟩; obtain ⟨hcW6, hfW6⟩ := bcell hbW6); have hsW6 : w.heap.size < W6.heap.size := (by have h := hbW6.size; (try simp at h); omega))
        | ((go_at_call 28; (with_reducible refine (HAP.out _).mono ?_); rintro e W7 ⟨rfl, hbW7⟩; obtain ⟨hcW7, hfW7⟩ := bcell hbW7); have hsW7 : w.heap.size < W7.heap.size := (by have h := hbW7.size; (try simp at h); omega))
        | ((go_at_call 23; (with_reducible refine (HOX.out _).mono ?_); rintro e W8 ⟨rfl, hbW8⟩; obtain ⟨hcW8, hfW8⟩ := bcell hbW8); have hsW8 : w.heap.size < W8.heap.size := (by have h := hbW8.size; (try simp at h); omega))
        | ((go_at_call 23; (with_reducible refine (HOY.out _).mono ?_); rintro e W9 ⟨rfl, hbW9⟩; obtain ⟨hcW9, hfW9⟩ := bcell hbW9); have hsW9 : w.heap.size < W9.heap.size := (by have h := hbW9.size; (try simp at h); omega))
        | ((go_at_call 29; (with_reducible refine (HAA.out _).mono ?_); rintro e W10 ⟨rfl, hbW10⟩; obtain ⟨hcW10, hfW10⟩ := bcell hbW10); have hsW10 : w.heap.size < W10.heap.size := (by have h := hbW10.size; (try simp at h); omega)))
      go_ret
      exact ⟨rfl, by (repeat (first | assumption | exact Below.refl _ _ | refine bel_drewN ?_ _ | refine bel_alloc ?_ _ | refine bel_trans ?_ (by assumption) | refine Below.trans ?_ (by assumption)))⟩
  · obtain ⟨er, her⟩ : ∃ e, firstE [pageE a, pageE b] = e := ⟨_, rfl⟩
    have hBB := fun W => Between_bad' a b W ha hb er her (fun h => h0 (her.trans h))
    have hn1 : (er != 0) = true := by simp; exact fun h => h0 (her.trans h)
    have hn2 : (er == 0) = false := by simp; exact fun h => h0 (her.trans h)
    rw [her] at hmax
    obtain ⟨e1, he1⟩ : ∃ e, e = pageE a := ⟨_, rfl⟩
    obtain ⟨e2, he2⟩ : ∃ e, e = pageE b := ⟨_, rfl⟩
    rw [← he1] at hEA hmax
    rw [← he2] at hEB hmax
    have HEA := Lib.hid hEA
    have HEB := Lib.hid hEB
    have HBB := Lib.hid hBB
    clear hEA hEB hBB he1 he2 h0 her
    rcases hwy with ⟨e, g1, g2, g3, g4⟩ | ⟨e, g1, g2, g3, g4, g5⟩ | ⟨g1, g2, g3, g4⟩
    · have g5 : (e != 0) = true := by simp [g2]
      rw [g3, g4] at hAP
      rw [g1] at hOX
      unfold opV at hS hT hAP hOX hOY
      have HS := Lib.hid hS
      have HT := Lib.hid hT
      have HAP := Lib.hid hAP
      have HOX := Lib.hid hOX
      clear hS hT hAP hOX hOY g1 g2 g3 g4
      go_enter Tryd.func5, Tryd.ntmps5
      go_wp2_with (first
        | ((go_at_call 12; (with_reducible refine (HAW.out _).mono ?_); rintro e W1 ⟨rfl, hbW1⟩; obtain ⟨hcW1, hfW1⟩ := bcell hbW1); have hsW1 : w.heap.size < W1.heap.size := (by have h := hbW1.size; (try simp at h); omega))
        | (go_at_call 13; (with_reducible refine (HPA.out _).mono ?_); rintro e w' ⟨rfl, rfl⟩)
        | (go_at_call 13; (with_reducible refine (HPB.out _).mono ?_); rintro e w' ⟨rfl, rfl⟩)
        | ((go_at_call 14; (with_reducible refine (HS.out _).mono ?_); rintro e W2 ⟨rfl, hbW2⟩; obtain ⟨hcW2, hfW2⟩ := bcell hbW2); have hsW2 : w.heap.size < W2.heap.size := (by have h := hbW2.size; (try simp at h); omega))
        | ((go_at_call 14; (with_reducible refine (HT.out _).mono ?_); rintro e W3 ⟨rfl, hbW3⟩; obtain ⟨hcW3, hfW3⟩ := bcell hbW3); have hsW3 : w.heap.size < W3.heap.size := (by have h := hbW3.size; (try simp at h); omega))
        | ((go_at_call 25; (with_reducible refine (HBB.out _).mono ?_); rintro e W4 ⟨rfl, hbW4⟩; obtain ⟨hcW4, hfW4⟩ := bcell hbW4); have hsW4 : w.heap.size < W4.heap.size := (by have h := hbW4.size; (try simp at h); omega))
        | (go_at_call 25; (with_reducible refine (HBO.out _).mono ?_); rintro e W4 ⟨A4, c4, rfl, r4, hbW4⟩; obtain ⟨hcW4, hfW4⟩ := bcell hbW4; have hsW4 : w.heap.size < W4.heap.size := (by have h := hbW4.size; (try simp at h); omega))
        | (go_at_call 19; (with_reducible refine (HEA.out _).mono ?_); rintro e w' ⟨rfl, rfl⟩)
        | (go_at_call 19; (with_reducible refine (HEB.out _).mono ?_); rintro e w' ⟨rfl, rfl⟩)
        | (go_at_call 27; (with_reducible refine (HRB.out _).mono ?_); rintro e W5 ⟨A5, c5, rfl, r5, hbW5⟩; have r45 := Rd.below' r4 hbW5; obtain ⟨hcW5, hfW5⟩ := bcell hbW5; have hsW5 : w.heap.size < W5.heap.size := (by have h := hbW5.size; (try simp at h); omega))
        | ((go_at_call 26; (with_reducible refine (HSO.out A4 A5 c4 c5 W5 r45 r5).mono ?_); rintro e W6 ⟨rfl, hbW6⟩; obtain ⟨hcW6, hfW6⟩ := bcell hbW6); have hsW6 : w.heap.size < W6.heap.size := (by have h := hbW6.size; (try simp at h); omega))
        | ((go_at_call 28; (with_reducible refine (HAP.out _).mono ?_); rintro e W7 ⟨rfl, hbW7⟩; obtain ⟨hcW7, hfW7⟩ := bcell hbW7); have hsW7 : w.heap.size < W7.heap.size := (by have h := hbW7.size; (try simp at h); omega))
        | ((go_at_call 23; (with_reducible refine (HOX.out _).mono ?_); rintro e W8 ⟨rfl, hbW8⟩; obtain ⟨hcW8, hfW8⟩ := bcell hbW8); have hsW8 : w.heap.size < W8.heap.size := (by have h := hbW8.size; (try simp at h); omega))
        | ((go_at_call 23; (with_reducible refine (HOY.out _).mono ?_); rintro e W9 ⟨rfl, hbW9⟩; obtain ⟨hcW9, hfW9⟩ := bcell hbW9); have hsW9 : w.heap.size < W9.heap.size := (by have h := hbW9.size; (try simp at h); omega))
        | ((go_at_call 29; (with_reducible refine (HAA.out _).mono ?_); rintro e W10 ⟨rfl, hbW10⟩; obtain ⟨hcW10, hfW10⟩ := bcell hbW10); have hsW10 : w.heap.size < W10.heap.size := (by have h := hbW10.size; (try simp at h); omega)))
      go_ret
      exact ⟨rfl, by (repeat (first | assumption | exact Below.refl _ _ | refine bel_drewN ?_ _ | refine bel_alloc ?_ _ | refine bel_trans ?_ (by assumption) | refine Below.trans ?_ (by assumption)))⟩
    · have g6 : (e != 0) = true := by simp [g3]
      rw [g4, g5] at hAP
      rw [g1] at hOX
      rw [g2] at hOY
      unfold opV at hS hT hAP hOX hOY
      have HS := Lib.hid hS
      have HT := Lib.hid hT
      have HAP := Lib.hid hAP
      have HOX := Lib.hid hOX
      have HOY := Lib.hid hOY
      clear hS hT hAP hOX hOY g1 g2 g3 g4 g5
      go_enter Tryd.func5, Tryd.ntmps5
      go_wp2_with (first
        | ((go_at_call 12; (with_reducible refine (HAW.out _).mono ?_); rintro e W1 ⟨rfl, hbW1⟩; obtain ⟨hcW1, hfW1⟩ := bcell hbW1); have hsW1 : w.heap.size < W1.heap.size := (by have h := hbW1.size; (try simp at h); omega))
        | (go_at_call 13; (with_reducible refine (HPA.out _).mono ?_); rintro e w' ⟨rfl, rfl⟩)
        | (go_at_call 13; (with_reducible refine (HPB.out _).mono ?_); rintro e w' ⟨rfl, rfl⟩)
        | ((go_at_call 14; (with_reducible refine (HS.out _).mono ?_); rintro e W2 ⟨rfl, hbW2⟩; obtain ⟨hcW2, hfW2⟩ := bcell hbW2); have hsW2 : w.heap.size < W2.heap.size := (by have h := hbW2.size; (try simp at h); omega))
        | ((go_at_call 14; (with_reducible refine (HT.out _).mono ?_); rintro e W3 ⟨rfl, hbW3⟩; obtain ⟨hcW3, hfW3⟩ := bcell hbW3); have hsW3 : w.heap.size < W3.heap.size := (by have h := hbW3.size; (try simp at h); omega))
        | ((go_at_call 25; (with_reducible refine (HBB.out _).mono ?_); rintro e W4 ⟨rfl, hbW4⟩; obtain ⟨hcW4, hfW4⟩ := bcell hbW4); have hsW4 : w.heap.size < W4.heap.size := (by have h := hbW4.size; (try simp at h); omega))
        | (go_at_call 25; (with_reducible refine (HBO.out _).mono ?_); rintro e W4 ⟨A4, c4, rfl, r4, hbW4⟩; obtain ⟨hcW4, hfW4⟩ := bcell hbW4; have hsW4 : w.heap.size < W4.heap.size := (by have h := hbW4.size; (try simp at h); omega))
        | (go_at_call 19; (with_reducible refine (HEA.out _).mono ?_); rintro e w' ⟨rfl, rfl⟩)
        | (go_at_call 19; (with_reducible refine (HEB.out _).mono ?_); rintro e w' ⟨rfl, rfl⟩)
        | (go_at_call 27; (with_reducible refine (HRB.out _).mono ?_); rintro e W5 ⟨A5, c5, rfl, r5, hbW5⟩; have r45 := Rd.below' r4 hbW5; obtain ⟨hcW5, hfW5⟩ := bcell hbW5; have hsW5 : w.heap.size < W5.heap.size := (by have h := hbW5.size; (try simp at h); omega))
        | ((go_at_call 26; (with_reducible refine (HSO.out A4 A5 c4 c5 W5 r45 r5).mono ?_); rintro e W6 ⟨rfl, hbW6⟩; obtain ⟨hcW6, hfW6⟩ := bcell hbW6); have hsW6 : w.heap.size < W6.heap.size := (by have h := hbW6.size; (try simp at h); omega))
        | ((go_at_call 28; (with_reducible refine (HAP.out _).mono ?_); rintro e W7 ⟨rfl, hbW7⟩; obtain ⟨hcW7, hfW7⟩ := bcell hbW7); have hsW7 : w.heap.size < W7.heap.size := (by have h := hbW7.size; (try simp at h); omega))
        | ((go_at_call 23; (with_reducible refine (HOX.out _).mono ?_); rintro e W8 ⟨rfl, hbW8⟩; obtain ⟨hcW8, hfW8⟩ := bcell hbW8); have hsW8 : w.heap.size < W8.heap.size := (by have h := hbW8.size; (try simp at h); omega))
        | ((go_at_call 23; (with_reducible refine (HOY.out _).mono ?_); rintro e W9 ⟨rfl, hbW9⟩; obtain ⟨hcW9, hfW9⟩ := bcell hbW9); have hsW9 : w.heap.size < W9.heap.size := (by have h := hbW9.size; (try simp at h); omega))
        | ((go_at_call 29; (with_reducible refine (HAA.out _).mono ?_); rintro e W10 ⟨rfl, hbW10⟩; obtain ⟨hcW10, hfW10⟩ := bcell hbW10); have hsW10 : w.heap.size < W10.heap.size := (by have h := hbW10.size; (try simp at h); omega)))
      go_ret
      exact ⟨rfl, by (repeat (first | assumption | exact Below.refl _ _ | refine bel_drewN ?_ _ | refine bel_alloc ?_ _ | refine bel_trans ?_ (by assumption) | refine Below.trans ?_ (by assumption)))⟩
    · have hAA := fun W => refApart_any x y W ((opE_iff x).1 g1) ((opE_iff y).1 g2)
      obtain ⟨bb, hbb⟩ : ∃ b, b = opApart x y := ⟨_, rfl⟩
      rw [g3, g4, ← hbb] at hAP
      rw [← hbb] at hAA
      rw [g1] at hOX
      rw [g2] at hOY
      unfold opV at hS hT hAP hOX hOY hAA
      have HS := Lib.hid hS
      have HT := Lib.hid hT
      have HAP := Lib.hid hAP
      have HOX := Lib.hid hOX
      have HOY := Lib.hid hOY
      have HAA := Lib.hid hAA
      clear hS hT hAP hOX hOY hAA g1 g2 g3 g4 hbb
      go_enter Tryd.func5, Tryd.ntmps5
      go_wp2_with (first
        | ((go_at_call 12; (with_reducible refine (HAW.out _).mono ?_); rintro e W1 ⟨rfl, hbW1⟩; obtain ⟨hcW1, hfW1⟩ := bcell hbW1); have hsW1 : w.heap.size < W1.heap.size := (by have h := hbW1.size; (try simp at h); omega))
        | (go_at_call 13; (with_reducible refine (HPA.out _).mono ?_); rintro e w' ⟨rfl, rfl⟩)
        | (go_at_call 13; (with_reducible refine (HPB.out _).mono ?_); rintro e w' ⟨rfl, rfl⟩)
        | ((go_at_call 14; (with_reducible refine (HS.out _).mono ?_); rintro e W2 ⟨rfl, hbW2⟩; obtain ⟨hcW2, hfW2⟩ := bcell hbW2); have hsW2 : w.heap.size < W2.heap.size := (by have h := hbW2.size; (try simp at h); omega))
        | ((go_at_call 14; (with_reducible refine (HT.out _).mono ?_); rintro e W3 ⟨rfl, hbW3⟩; obtain ⟨hcW3, hfW3⟩ := bcell hbW3); have hsW3 : w.heap.size < W3.heap.size := (by have h := hbW3.size; (try simp at h); omega))
        | ((go_at_call 25; (with_reducible refine (HBB.out _).mono ?_); rintro e W4 ⟨rfl, hbW4⟩; obtain ⟨hcW4, hfW4⟩ := bcell hbW4); have hsW4 : w.heap.size < W4.heap.size := (by have h := hbW4.size; (try simp at h); omega))
        | (go_at_call 25; (with_reducible refine (HBO.out _).mono ?_); rintro e W4 ⟨A4, c4, rfl, r4, hbW4⟩; obtain ⟨hcW4, hfW4⟩ := bcell hbW4; have hsW4 : w.heap.size < W4.heap.size := (by have h := hbW4.size; (try simp at h); omega))
        | (go_at_call 19; (with_reducible refine (HEA.out _).mono ?_); rintro e w' ⟨rfl, rfl⟩)
        | (go_at_call 19; (with_reducible refine (HEB.out _).mono ?_); rintro e w' ⟨rfl, rfl⟩)
        | (go_at_call 27; (with_reducible refine (HRB.out _).mono ?_); rintro e W5 ⟨A5, c5, rfl, r5, hbW5⟩; have r45 := Rd.below' r4 hbW5; obtain ⟨hcW5, hfW5⟩ := bcell hbW5; have hsW5 : w.heap.size < W5.heap.size := (by have h := hbW5.size; (try simp at h); omega))
        | ((go_at_call 26; (with_reducible refine (HSO.out A4 A5 c4 c5 W5 r45 r5).mono ?_); rintro e W6 ⟨rfl, hbW6⟩; obtain ⟨hcW6, hfW6⟩ := bcell hbW6); have hsW6 : w.heap.size < W6.heap.size := (by have h := hbW6.size; (try simp at h); omega))
        | ((go_at_call 28; (with_reducible refine (HAP.out _).mono ?_); rintro e W7 ⟨rfl, hbW7⟩; obtain ⟨hcW7, hfW7⟩ := bcell hbW7); have hsW7 : w.heap.size < W7.heap.size := (by have h := hbW7.size; (try simp at h); omega))
        | ((go_at_call 23; (with_reducible refine (HOX.out _).mono ?_); rintro e W8 ⟨rfl, hbW8⟩; obtain ⟨hcW8, hfW8⟩ := bcell hbW8); have hsW8 : w.heap.size < W8.heap.size := (by have h := hbW8.size; (try simp at h); omega))
        | ((go_at_call 23; (with_reducible refine (HOY.out _).mono ?_); rintro e W9 ⟨rfl, hbW9⟩; obtain ⟨hcW9, hfW9⟩ := bcell hbW9); have hsW9 : w.heap.size < W9.heap.size := (by have h := hbW9.size; (try simp at h); omega))
        | ((go_at_call 29; (with_reducible refine (HAA.out _).mono ?_); rintro e W10 ⟨rfl, hbW10⟩; obtain ⟨hcW10, hfW10⟩ := bcell hbW10); have hsW10 : w.heap.size < W10.heap.size := (by have h := hbW10.size; (try simp at h); omega)))
      go_ret
      exact ⟨rfl, by (repeat (first | assumption | exact Below.refl _ _ | refine bel_drewN ?_ _ | refine bel_alloc ?_ _ | refine bel_trans ?_ (by assumption) | refine Below.trans ?_ (by assumption)))⟩

set_option maxRecDepth 100000 in
set_option maxHeartbeats 4000000 in
theorem wLogopBetween (a : ByteArray) (ha : a.size ≤ maxLen) (b : ByteArray) (hb : b.size ≤ maxLen) (x : Op × Op) (hx : OpMax x.1) (hy : OpMax x.2) (w : World) :
    Calls Tryd.prog 5 #[.string a, .string b, .agg (opVs x.1 ++ opVs x.2).toArray] w fun e w' => e = .returned (.bool true) ∧ Below w.heap.size w w' := by
  obtain ⟨x, y⟩ := x
  show Calls Tryd.prog 5 #[.string a, .string b, op2V x y] w fun e w' => e = .returned (.bool true) ∧ Below w.heap.size w w'
  dsimp only at hx hy
  have HAW := Lib.hid awake21_any
  have hPA := fun W => pageLike_any a W ha
  have hPB := fun W => pageLike_any b W hb
  have hS := fun W => short_any x W hx.1 hx.2
  have hT := fun W => short_any y W hy.1 hy.2
  by_cases h1 : a.size ≤ 522
  · rw [decide_eq_true h1] at hPA
    have HPA := Lib.hid hPA
    clear hPA
    by_cases h2 : b.size ≤ 522
    · rw [decide_eq_true h2] at hPB
      have HPB := Lib.hid hPB
      clear hPB
      by_cases h3 : x.o.size ≤ 600 ∧ x.n.size ≤ 600
      · by_cases h4 : y.o.size ≤ 600 ∧ y.n.size ≤ 600
        · exact wLogopBetween_main a b ha hb x y w h1 h2 h3 h4
        · rw [short_yes h3] at hS
          rw [short_no h4] at hT
          have HS := Lib.hid hS
          have HT := Lib.hid hT
          clear hS hT h3 h4
          unfold op2V
          unfold opV at *
          go_enter Tryd.func5, Tryd.ntmps5
          go_wp2_with (first
            | ((go_at_call 12; (with_reducible refine (HAW.out _).mono ?_); rintro e W1 ⟨rfl, hbW1⟩; obtain ⟨hcW1, hfW1⟩ := bcell hbW1); have hsW1 : w.heap.size < W1.heap.size := (by have h := hbW1.size; (try simp at h); omega))
            | (go_at_call 13; (with_reducible refine (HPA.out _).mono ?_); rintro e w' ⟨rfl, rfl⟩)
            | (go_at_call 13; (with_reducible refine (HPB.out _).mono ?_); rintro e w' ⟨rfl, rfl⟩)
            | ((go_at_call 14; (with_reducible refine (HS.out _).mono ?_); rintro e W2 ⟨rfl, hbW2⟩; obtain ⟨hcW2, hfW2⟩ := bcell hbW2); have hsW2 : w.heap.size < W2.heap.size := (by have h := hbW2.size; (try simp at h); omega))
            | ((go_at_call 14; (with_reducible refine (HT.out _).mono ?_); rintro e W3 ⟨rfl, hbW3⟩; obtain ⟨hcW3, hfW3⟩ := bcell hbW3); have hsW3 : w.heap.size < W3.heap.size := (by have h := hbW3.size; (try simp at h); omega)))
          go_ret
          exact ⟨rfl, by (repeat (first | assumption | exact Below.refl _ _ | refine bel_drewN ?_ _ | refine bel_alloc ?_ _ | refine bel_trans ?_ (by assumption) | refine Below.trans ?_ (by assumption)))⟩
      · rw [short_no h3] at hS
        have HS := Lib.hid hS
        clear hS hT h3
        unfold op2V
        unfold opV at *
        go_enter Tryd.func5, Tryd.ntmps5
        go_wp2_with (first
          | ((go_at_call 12; (with_reducible refine (HAW.out _).mono ?_); rintro e W1 ⟨rfl, hbW1⟩; obtain ⟨hcW1, hfW1⟩ := bcell hbW1); have hsW1 : w.heap.size < W1.heap.size := (by have h := hbW1.size; (try simp at h); omega))
          | (go_at_call 13; (with_reducible refine (HPA.out _).mono ?_); rintro e w' ⟨rfl, rfl⟩)
          | (go_at_call 13; (with_reducible refine (HPB.out _).mono ?_); rintro e w' ⟨rfl, rfl⟩)
          | ((go_at_call 14; (with_reducible refine (HS.out _).mono ?_); rintro e W2 ⟨rfl, hbW2⟩; obtain ⟨hcW2, hfW2⟩ := bcell hbW2); have hsW2 : w.heap.size < W2.heap.size := (by have h := hbW2.size; (try simp at h); omega)))
        go_ret
        exact ⟨rfl, by (repeat (first | assumption | exact Below.refl _ _ | refine bel_drewN ?_ _ | refine bel_alloc ?_ _ | refine bel_trans ?_ (by assumption) | refine Below.trans ?_ (by assumption)))⟩
    · rw [decide_eq_false h2] at hPB
      have HPB := Lib.hid hPB
      clear hPB hS hT
      unfold op2V
      go_enter Tryd.func5, Tryd.ntmps5
      go_wp2_with (first
        | ((go_at_call 12; (with_reducible refine (HAW.out _).mono ?_); rintro e W1 ⟨rfl, hbW1⟩; obtain ⟨hcW1, hfW1⟩ := bcell hbW1))
        | (go_at_call 13; (with_reducible refine (HPA.out _).mono ?_); rintro e w' ⟨rfl, rfl⟩)
        | (go_at_call 13; (with_reducible refine (HPB.out _).mono ?_); rintro e w' ⟨rfl, rfl⟩))
      go_ret
      exact ⟨rfl, by (repeat (first | assumption | exact Below.refl _ _ | refine bel_drewN ?_ _ | refine bel_alloc ?_ _ | refine bel_trans ?_ (by assumption) | refine Below.trans ?_ (by assumption)))⟩
  · rw [decide_eq_false h1] at hPA
    have HPA := Lib.hid hPA
    clear hPA hPB hS hT
    unfold op2V
    go_enter Tryd.func5, Tryd.ntmps5
    go_wp2_with (first
      | ((go_at_call 12; (with_reducible refine (HAW.out _).mono ?_); rintro e W1 ⟨rfl, hbW1⟩; obtain ⟨hcW1, hfW1⟩ := bcell hbW1))
      | (go_at_call 13; (with_reducible refine (HPA.out _).mono ?_); rintro e w' ⟨rfl, rfl⟩))
    go_ret
    exact ⟨rfl, by (repeat (first | assumption | exact Below.refl _ _ | refine bel_drewN ?_ _ | refine bel_alloc ?_ _ | refine bel_trans ?_ (by assumption) | refine Below.trans ?_ (by assumption)))⟩
end Go.Proofs.YtgmipogidmcilaaDoor
