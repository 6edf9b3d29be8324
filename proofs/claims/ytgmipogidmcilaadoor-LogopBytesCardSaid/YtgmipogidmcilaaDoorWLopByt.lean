/-
  Chapter 21: the law LogopBytes: its walk.
-/
import Derived.Test.YtgmipogidmcilaaDoorOpEnt3
import Derived.Test.YtgmipogidmcilaaDoorWLopApp
namespace Go.Proofs.YtgmipogidmcilaaDoor
set_option linter.unusedVariables false
set_option linter.unusedSimpArgs false
open Go.RowKit Go.Sort

set_option maxRecDepth 100000 in
set_option maxHeartbeats 4000000 in
theorem wLogopBytes_f (k t p x g : Int) (f : Bool) (o : Op) (d : ByteArray) (w : World) (hm : OpMax o) (hd : d.size ≤ maxLen) :
    Calls Tryd.prog 7 #[.agg #[.int .i64 k, .int .i64 t, .int .i64 p, .int .i64 x, .int .i64 g, .bool f, .int .i64 o.k, .int .i64 o.a, .int .i64 o.e, .int .i64 o.c, .string o.o, .string o.n, .string d]] w fun e w' => e = .returned (.bool true) ∧ Below w.heap.size w w' := by
  have HAW := Lib.hid awake21_any
  have hS := fun W => short_any o W hm.1 hm.2
  unfold maxLen at hd
  by_cases h1 : o.o.size ≤ 600 ∧ o.n.size ≤ 600
  · rw [short_yes h1] at hS
    have HS := Lib.hid hS
    clear hS
    by_cases h2 : d.size ≤ 1100
    · have h2' : (d.size : Int) ≤ 1100 := by omega
      have hB := fun W => BytesOf_any o W (by omega) (by omega)
      have hO := fun W => refOpErr_any o W (by omega) (by omega)
      have hC := fun W => CheckEntry_f k t p x g f o d W (by omega) (by omega) (by unfold maxLen; omega)
      have hEB := fun W => EntryBytes_f k t p x g f o d W (by omega) (by omega) (by unfold maxLen; omega)
      have hEE := fun W => refEntryErr_f k t p x g f o d W (by omega) (by omega) (by unfold maxLen; omega)
      by_cases z1 : opE o = 0
      · have hRB := fun W => refBytes_any o W (opOK_pos ((opE_iff o).1 z1))
        have e1 : opBytesE o = bs (opBytesL o) := by unfold opBytesE; rw [if_pos z1]
        rw [z1, e1] at hB
        rw [z1] at hO
        obtain ⟨s1, hs1⟩ : ∃ s, s = bs (opBytesL o) := ⟨_, rfl⟩
        rw [← hs1] at hB hRB
        unfold opV at hB hO hRB HS
        have HB := Lib.hid hB
        have HO := Lib.hid hO
        have HRB := Lib.hid hRB
        by_cases z2 : entE ⟨k, t, p, x, g, f, o, d⟩ = 0
        · have hREB := fun W => refEntryBytes_f k t p x g f o d W z2
          have e2 : entBytesE ⟨k, t, p, x, g, f, o, d⟩ = bs (entBytesL ⟨k, t, p, x, g, f, o, d⟩) := by unfold entBytesE; rw [if_pos z2]
          rw [z2] at hC hEE
          rw [z2, e2] at hEB
          obtain ⟨s2, hs2⟩ : ∃ s, s = bs (entBytesL ⟨k, t, p, x, g, f, o, d⟩) := ⟨_, rfl⟩
          rw [← hs2] at hEB hREB
          have HC := Lib.hid hC
          have HEE := Lib.hid hEE
          have HEB := Lib.hid hEB
          have HREB := Lib.hid hREB
          clear hB hO hRB hC hEE hEB hREB z1 e1 z2 e2 hs1 hs2 h1 hm
          go_enter Tryd.func7, Tryd.ntmps7
          go_wp2_with (first
            | ((go_at_call 12; (with_reducible refine (HAW.out _).mono ?_); rintro e W1 ⟨rfl, hbW1⟩; obtain ⟨hcW1, hfW1⟩ := bcell hbW1); have hsW1 : w.heap.size < W1.heap.size := (by have h := hbW1.size; (try simp at h); omega))
            | ((go_at_call 14; (with_reducible refine (HS.out _).mono ?_); rintro e W2 ⟨rfl, hbW2⟩; obtain ⟨hcW2, hfW2⟩ := bcell hbW2); have hsW2 : w.heap.size < W2.heap.size := (by have h := hbW2.size; (try simp at h); omega))
            | ((go_at_call 31; (with_reducible refine (HB.out _).mono ?_); rintro e W3 ⟨rfl, hbW3⟩; obtain ⟨hcW3, hfW3⟩ := bcell hbW3); have hsW3 : w.heap.size < W3.heap.size := (by have h := hbW3.size; (try simp at h); omega))
            | ((go_at_call 23; (with_reducible refine (HO.out _).mono ?_); rintro e W4 ⟨rfl, hbW4⟩; obtain ⟨hcW4, hfW4⟩ := bcell hbW4); have hsW4 : w.heap.size < W4.heap.size := (by have h := hbW4.size; (try simp at h); omega))
            | ((go_at_call 32; (with_reducible refine (HRB.out _).mono ?_); rintro e W5 ⟨rfl, hbW5⟩; obtain ⟨hcW5, hfW5⟩ := bcell hbW5); have hsW5 : w.heap.size < W5.heap.size := (by have h := hbW5.size; (try simp at h); omega))
            | ((go_at_call 33; (with_reducible refine (HC.out _).mono ?_); rintro e W6 ⟨rfl, hbW6⟩; obtain ⟨hcW6, hfW6⟩ := bcell hbW6); have hsW6 : w.heap.size < W6.heap.size := (by have h := hbW6.size; (try simp at h); omega))
            | ((go_at_call 34; (with_reducible refine (HEB.out _).mono ?_); rintro e W7 ⟨rfl, hbW7⟩; obtain ⟨hcW7, hfW7⟩ := bcell hbW7); have hsW7 : w.heap.size < W7.heap.size := (by have h := hbW7.size; (try simp at h); omega))
            | ((go_at_call 35; (with_reducible refine (HEE.out _).mono ?_); rintro e W8 ⟨rfl, hbW8⟩; obtain ⟨hcW8, hfW8⟩ := bcell hbW8); have hsW8 : w.heap.size < W8.heap.size := (by have h := hbW8.size; (try simp at h); omega))
            | ((go_at_call 36; (with_reducible refine (HREB.out _).mono ?_); rintro e W9 ⟨rfl, hbW9⟩; obtain ⟨hcW9, hfW9⟩ := bcell hbW9); have hsW9 : w.heap.size < W9.heap.size := (by have h := hbW9.size; (try simp at h); omega)))
          go_ret
          exact ⟨rfl, by (repeat (first | assumption | exact Below.refl _ _ | refine bel_drewN ?_ _ | refine bel_alloc ?_ _ | refine bel_trans ?_ (by assumption) | refine Below.trans ?_ (by assumption)))⟩
        · have e2 : entBytesE ⟨k, t, p, x, g, f, o, d⟩ = ⟨#[]⟩ := by unfold entBytesE; rw [if_neg z2]
          obtain ⟨er, her⟩ : ∃ e, e = entE ⟨k, t, p, x, g, f, o, d⟩ := ⟨_, rfl⟩
          rw [← her] at hC hEE z2
          rw [← her, e2] at hEB
          have hz : (er != 0) = true := by simp [z2]
          have HC := Lib.hid hC
          have HEE := Lib.hid hEE
          have HEB := Lib.hid hEB
          clear hB hO hRB hC hEE hEB z1 e1 z2 e2 hs1 h1 hm her
          go_enter Tryd.func7, Tryd.ntmps7
          go_wp2_with (first
            | ((go_at_call 12; (with_reducible refine (HAW.out _).mono ?_); rintro e W1 ⟨rfl, hbW1⟩; obtain ⟨hcW1, hfW1⟩ := bcell hbW1); have hsW1 : w.heap.size < W1.heap.size := (by have h := hbW1.size; (try simp at h); omega))
            | ((go_at_call 14; (with_reducible refine (HS.out _).mono ?_); rintro e W2 ⟨rfl, hbW2⟩; obtain ⟨hcW2, hfW2⟩ := bcell hbW2); have hsW2 : w.heap.size < W2.heap.size := (by have h := hbW2.size; (try simp at h); omega))
            | ((go_at_call 31; (with_reducible refine (HB.out _).mono ?_); rintro e W3 ⟨rfl, hbW3⟩; obtain ⟨hcW3, hfW3⟩ := bcell hbW3); have hsW3 : w.heap.size < W3.heap.size := (by have h := hbW3.size; (try simp at h); omega))
            | ((go_at_call 23; (with_reducible refine (HO.out _).mono ?_); rintro e W4 ⟨rfl, hbW4⟩; obtain ⟨hcW4, hfW4⟩ := bcell hbW4); have hsW4 : w.heap.size < W4.heap.size := (by have h := hbW4.size; (try simp at h); omega))
            | ((go_at_call 32; (with_reducible refine (HRB.out _).mono ?_); rintro e W5 ⟨rfl, hbW5⟩; obtain ⟨hcW5, hfW5⟩ := bcell hbW5); have hsW5 : w.heap.size < W5.heap.size := (by have h := hbW5.size; (try simp at h); omega))
            | ((go_at_call 33; (with_reducible refine (HC.out _).mono ?_); rintro e W6 ⟨rfl, hbW6⟩; obtain ⟨hcW6, hfW6⟩ := bcell hbW6); have hsW6 : w.heap.size < W6.heap.size := (by have h := hbW6.size; (try simp at h); omega))
            | ((go_at_call 34; (with_reducible refine (HEB.out _).mono ?_); rintro e W7 ⟨rfl, hbW7⟩; obtain ⟨hcW7, hfW7⟩ := bcell hbW7); have hsW7 : w.heap.size < W7.heap.size := (by have h := hbW7.size; (try simp at h); omega))
            | ((go_at_call 35; (with_reducible refine (HEE.out _).mono ?_); rintro e W8 ⟨rfl, hbW8⟩; obtain ⟨hcW8, hfW8⟩ := bcell hbW8); have hsW8 : w.heap.size < W8.heap.size := (by have h := hbW8.size; (try simp at h); omega))
            | ((go_at_call 36; (with_reducible refine (HREB.out _).mono ?_); rintro e W9 ⟨rfl, hbW9⟩; obtain ⟨hcW9, hfW9⟩ := bcell hbW9); have hsW9 : w.heap.size < W9.heap.size := (by have h := hbW9.size; (try simp at h); omega)))
          go_ret
          exact ⟨rfl, by (repeat (first | assumption | exact Below.refl _ _ | refine bel_drewN ?_ _ | refine bel_alloc ?_ _ | refine bel_trans ?_ (by assumption) | refine Below.trans ?_ (by assumption)))⟩
      · have e1 : opBytesE o = ⟨#[]⟩ := by unfold opBytesE; rw [if_neg z1]
        have z2 : entE ⟨k, t, p, x, g, f, o, d⟩ ≠ 0 := fun h => z1 ((opE_iff o).2 (entE_zero h).2.2.2.2)
        have e2 : entBytesE ⟨k, t, p, x, g, f, o, d⟩ = ⟨#[]⟩ := by unfold entBytesE; rw [if_neg z2]
        obtain ⟨eo, heo⟩ : ∃ e, e = opE o := ⟨_, rfl⟩
        obtain ⟨er, her⟩ : ∃ e, e = entE ⟨k, t, p, x, g, f, o, d⟩ := ⟨_, rfl⟩
        rw [← heo] at hO z1
        rw [← heo, e1] at hB
        rw [← her] at hC hEE z2
        rw [← her, e2] at hEB
        have hz : (er != 0) = true := by simp [z2]
        have hz1 : (eo != 0) = true := by simp [z1]
        unfold opV at hB hO HS
        have HB := Lib.hid hB
        have HO := Lib.hid hO
        have HC := Lib.hid hC
        have HEE := Lib.hid hEE
        have HEB := Lib.hid hEB
        clear hB hO hC hEE hEB z1 e1 z2 e2 h1 hm her heo
        go_enter Tryd.func7, Tryd.ntmps7
        go_wp2_with (first
          | ((go_at_call 12; (with_reducible refine (HAW.out _).mono ?_); rintro e W1 ⟨rfl, hbW1⟩; obtain ⟨hcW1, hfW1⟩ := bcell hbW1); have hsW1 : w.heap.size < W1.heap.size := (by have h := hbW1.size; (try simp at h); omega))
          | ((go_at_call 14; (with_reducible refine (HS.out _).mono ?_); rintro e W2 ⟨rfl, hbW2⟩; obtain ⟨hcW2, hfW2⟩ := bcell hbW2); have hsW2 : w.heap.size < W2.heap.size := (by have h := hbW2.size; (try simp at h); omega))
          | ((go_at_call 31; (with_reducible refine (HB.out _).mono ?_); rintro e W3 ⟨rfl, hbW3⟩; obtain ⟨hcW3, hfW3⟩ := bcell hbW3); have hsW3 : w.heap.size < W3.heap.size := (by have h := hbW3.size; (try simp at h); omega))
          | ((go_at_call 23; (with_reducible refine (HO.out _).mono ?_); rintro e W4 ⟨rfl, hbW4⟩; obtain ⟨hcW4, hfW4⟩ := bcell hbW4); have hsW4 : w.heap.size < W4.heap.size := (by have h := hbW4.size; (try simp at h); omega))
          | ((go_at_call 32; (with_reducible refine (HRB.out _).mono ?_); rintro e W5 ⟨rfl, hbW5⟩; obtain ⟨hcW5, hfW5⟩ := bcell hbW5); have hsW5 : w.heap.size < W5.heap.size := (by have h := hbW5.size; (try simp at h); omega))
          | ((go_at_call 33; (with_reducible refine (HC.out _).mono ?_); rintro e W6 ⟨rfl, hbW6⟩; obtain ⟨hcW6, hfW6⟩ := bcell hbW6); have hsW6 : w.heap.size < W6.heap.size := (by have h := hbW6.size; (try simp at h); omega))
          | ((go_at_call 34; (with_reducible refine (HEB.out _).mono ?_); rintro e W7 ⟨rfl, hbW7⟩; obtain ⟨hcW7, hfW7⟩ := bcell hbW7); have hsW7 : w.heap.size < W7.heap.size := (by have h := hbW7.size; (try simp at h); omega))
          | ((go_at_call 35; (with_reducible refine (HEE.out _).mono ?_); rintro e W8 ⟨rfl, hbW8⟩; obtain ⟨hcW8, hfW8⟩ := bcell hbW8); have hsW8 : w.heap.size < W8.heap.size := (by have h := hbW8.size; (try simp at h); omega))
          | ((go_at_call 36; (with_reducible refine (HREB.out _).mono ?_); rintro e W9 ⟨rfl, hbW9⟩; obtain ⟨hcW9, hfW9⟩ := bcell hbW9); have hsW9 : w.heap.size < W9.heap.size := (by have h := hbW9.size; (try simp at h); omega)))
        go_ret
        exact ⟨rfl, by (repeat (first | assumption | exact Below.refl _ _ | refine bel_drewN ?_ _ | refine bel_alloc ?_ _ | refine bel_trans ?_ (by assumption) | refine Below.trans ?_ (by assumption)))⟩
    · have h2' : (1100 : Int) < d.size := by omega
      unfold opV at HS
      clear h1 hm
      go_enter Tryd.func7, Tryd.ntmps7
      go_wp2_with (first
        | ((go_at_call 12; (with_reducible refine (HAW.out _).mono ?_); rintro e W1 ⟨rfl, hbW1⟩; obtain ⟨hcW1, hfW1⟩ := bcell hbW1); have hsW1 : w.heap.size < W1.heap.size := (by have h := hbW1.size; (try simp at h); omega))
        | ((go_at_call 14; (with_reducible refine (HS.out _).mono ?_); rintro e W2 ⟨rfl, hbW2⟩; obtain ⟨hcW2, hfW2⟩ := bcell hbW2); have hsW2 : w.heap.size < W2.heap.size := (by have h := hbW2.size; (try simp at h); omega))
        | ((go_at_call 31; (with_reducible refine (HB.out _).mono ?_); rintro e W3 ⟨rfl, hbW3⟩; obtain ⟨hcW3, hfW3⟩ := bcell hbW3); have hsW3 : w.heap.size < W3.heap.size := (by have h := hbW3.size; (try simp at h); omega))
        | ((go_at_call 23; (with_reducible refine (HO.out _).mono ?_); rintro e W4 ⟨rfl, hbW4⟩; obtain ⟨hcW4, hfW4⟩ := bcell hbW4); have hsW4 : w.heap.size < W4.heap.size := (by have h := hbW4.size; (try simp at h); omega))
        | ((go_at_call 32; (with_reducible refine (HRB.out _).mono ?_); rintro e W5 ⟨rfl, hbW5⟩; obtain ⟨hcW5, hfW5⟩ := bcell hbW5); have hsW5 : w.heap.size < W5.heap.size := (by have h := hbW5.size; (try simp at h); omega))
        | ((go_at_call 33; (with_reducible refine (HC.out _).mono ?_); rintro e W6 ⟨rfl, hbW6⟩; obtain ⟨hcW6, hfW6⟩ := bcell hbW6); have hsW6 : w.heap.size < W6.heap.size := (by have h := hbW6.size; (try simp at h); omega))
        | ((go_at_call 34; (with_reducible refine (HEB.out _).mono ?_); rintro e W7 ⟨rfl, hbW7⟩; obtain ⟨hcW7, hfW7⟩ := bcell hbW7); have hsW7 : w.heap.size < W7.heap.size := (by have h := hbW7.size; (try simp at h); omega))
        | ((go_at_call 35; (with_reducible refine (HEE.out _).mono ?_); rintro e W8 ⟨rfl, hbW8⟩; obtain ⟨hcW8, hfW8⟩ := bcell hbW8); have hsW8 : w.heap.size < W8.heap.size := (by have h := hbW8.size; (try simp at h); omega))
        | ((go_at_call 36; (with_reducible refine (HREB.out _).mono ?_); rintro e W9 ⟨rfl, hbW9⟩; obtain ⟨hcW9, hfW9⟩ := bcell hbW9); have hsW9 : w.heap.size < W9.heap.size := (by have h := hbW9.size; (try simp at h); omega)))
      go_ret
      exact ⟨rfl, by (repeat (first | assumption | exact Below.refl _ _ | refine bel_drewN ?_ _ | refine bel_alloc ?_ _ | refine bel_trans ?_ (by assumption) | refine Below.trans ?_ (by assumption)))⟩
  · rw [short_no h1] at hS
    have HS := Lib.hid hS
    clear hS h1 hm
    unfold opV at HS
    go_enter Tryd.func7, Tryd.ntmps7
    go_wp2_with (first
      | ((go_at_call 12; (with_reducible refine (HAW.out _).mono ?_); rintro e W1 ⟨rfl, hbW1⟩; obtain ⟨hcW1, hfW1⟩ := bcell hbW1); have hsW1 : w.heap.size < W1.heap.size := (by have h := hbW1.size; (try simp at h); omega))
      | ((go_at_call 14; (with_reducible refine (HS.out _).mono ?_); rintro e W2 ⟨rfl, hbW2⟩; obtain ⟨hcW2, hfW2⟩ := bcell hbW2); have hsW2 : w.heap.size < W2.heap.size := (by have h := hbW2.size; (try simp at h); omega))
      | ((go_at_call 31; (with_reducible refine (HB.out _).mono ?_); rintro e W3 ⟨rfl, hbW3⟩; obtain ⟨hcW3, hfW3⟩ := bcell hbW3); have hsW3 : w.heap.size < W3.heap.size := (by have h := hbW3.size; (try simp at h); omega))
      | ((go_at_call 23; (with_reducible refine (HO.out _).mono ?_); rintro e W4 ⟨rfl, hbW4⟩; obtain ⟨hcW4, hfW4⟩ := bcell hbW4); have hsW4 : w.heap.size < W4.heap.size := (by have h := hbW4.size; (try simp at h); omega))
      | ((go_at_call 32; (with_reducible refine (HRB.out _).mono ?_); rintro e W5 ⟨rfl, hbW5⟩; obtain ⟨hcW5, hfW5⟩ := bcell hbW5); have hsW5 : w.heap.size < W5.heap.size := (by have h := hbW5.size; (try simp at h); omega))
      | ((go_at_call 33; (with_reducible refine (HC.out _).mono ?_); rintro e W6 ⟨rfl, hbW6⟩; obtain ⟨hcW6, hfW6⟩ := bcell hbW6); have hsW6 : w.heap.size < W6.heap.size := (by have h := hbW6.size; (try simp at h); omega))
      | ((go_at_call 34; (with_reducible refine (HEB.out _).mono ?_); rintro e W7 ⟨rfl, hbW7⟩; obtain ⟨hcW7, hfW7⟩ := bcell hbW7); have hsW7 : w.heap.size < W7.heap.size := (by have h := hbW7.size; (try simp at h); omega))
      | ((go_at_call 35; (with_reducible refine (HEE.out _).mono ?_); rintro e W8 ⟨rfl, hbW8⟩; obtain ⟨hcW8, hfW8⟩ := bcell hbW8); have hsW8 : w.heap.size < W8.heap.size := (by have h := hbW8.size; (try simp at h); omega))
      | ((go_at_call 36; (with_reducible refine (HREB.out _).mono ?_); rintro e W9 ⟨rfl, hbW9⟩; obtain ⟨hcW9, hfW9⟩ := bcell hbW9); have hsW9 : w.heap.size < W9.heap.size := (by have h := hbW9.size; (try simp at h); omega)))
    go_ret
    exact ⟨rfl, by (repeat (first | assumption | exact Below.refl _ _ | refine bel_drewN ?_ _ | refine bel_alloc ?_ _ | refine bel_trans ?_ (by assumption) | refine Below.trans ?_ (by assumption)))⟩
theorem wLogopBytes (e : Ent) (hm : EntMax e) (w : World) :
    Calls Tryd.prog 7 #[entV e] w fun e w' => e = .returned (.bool true) ∧ Below w.heap.size w w' :=
  wLogopBytes_f e.k e.t e.p e.x e.g e.f e.o e.d w hm.1 hm.2
end Go.Proofs.YtgmipogidmcilaaDoor
