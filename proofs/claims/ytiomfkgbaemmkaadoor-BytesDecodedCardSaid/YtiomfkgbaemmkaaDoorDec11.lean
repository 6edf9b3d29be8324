/-
  Chapter 1: the reader's value of an open field.
-/
import Derived.Test.YtiomfkgbaemmkaaDoorDec10
namespace Go.Proofs.YtiomfkgbaemmkaaDoor
set_option linter.unusedVariables false
set_option linter.unusedSimpArgs false
open Go.RowKit Go.Sort

theorem VS.grown {w W W' : World} {R : Nat} {k z : Int} {s : ByteArray} {a : Int} {cs : Array Value} {row : Option Nat} (h : VS w R k z s a cs W) (hR : R < w.heap.size) (hg : W.grownBy W' row) (hrow : ∀ g, row = some g → w.heap.size + 3 ≤ g) : VS w R k z s a cs W' :=
  ⟨h.grw.grown hg (fun g e => by have := hrow g e; omega), h.f.grown hg (fun e => by have := hrow _ e; omega), h.o.grown hg (fun e => by have := hrow _ e; omega), h.v.grown hg (fun e => by have := hrow _ e; omega), h.r.grown hg (fun e => by have := hrow _ e; omega)⟩

set_option maxRecDepth 100000 in
theorem value_empty2 (R : Nat) (z : Int) (s : ByteArray) (a : Nat) (w : World) (hz : fldE 2 z = 0) (hs : s.size ≤ 200000) (ha : a = s.size) (hR : RdrAt w R s a) :
    Calls Tryd.prog 33 #[.pointer (some ⟨R, 0, none⟩), .agg #[.int .i64 2, .int .i64 z]] w (ValPost (decF 2 z ((bl s).drop a)) R s a w) := by
  have hd : decF 2 z ((bl s).drop a) = (⟨0, ⟨#[]⟩, []⟩, 0, 37) := by unfold decF; rw [if_pos (by omega), if_pos (by rw [List.length_drop, bl_length]; omega)]; rfl
  have HD := Lib.hid hd
  have hop : opn 2 = true := rfl
  have HRlt := Lib.hid hR.lt
  have HR := Lib.hid hR
  have ha2 : 0 ≤ (a : Int) ∧ (a : Int) ≤ 200000 := by omega
  have hc2 : (0 : Int) ≤ 1 ∧ (1 : Int) ≤ 200000 := by omega
  have hno : (s.size : Int) - a < 1 := by omega
  clear hd hz hR
  go_enter Tryd.func33, Tryd.ntmps33
  go_wp2_with (first | (go_at_call 45; refine (isOpen_any _ _ _).mono ?_; rintro e W1 ⟨rfl, hb1⟩; have q1 := (VS.start (k := 2) (z := z) w R HR.out).below hb1; obtain ⟨x1, y1, ⟨s1a, s1b, s1⟩, v1⟩ := q1.facts; have r1 := q1.r; have HQ1 := Lib.hid q1; clear hb1 q1) | (go_at_call 56; (with_reducible refine (take_no R s a 1 _ hs ha2 hc2 r1 hno).mono ?_); rintro e W2 ⟨rfl, hb2⟩; have q2 := HQ1.out.below hb2; obtain ⟨x2, y2, ⟨s2a, s2b, s2⟩, v2⟩ := q2.facts; have HQ2 := Lib.hid q2; clear hb2 q2) | (refine wpList_store_newG rfl 47 (.tmp 4) (.tmp 25) rfl rfl (w.heap.size + 1) #[.int .i64 0, .string ⟨#[]⟩, .slice none 0 0] rfl rfl 47 _ (HQ2.out).o (by kernel_rfl) (by kernel_rfl) (by kernel_rfl) ?_; intro W9 hg9 hr9 _))
  exact bodyPost_ret (results_cell_tmp Tryd.results33 _ W9 (w.heap.size + 1) 47 _ _ _ rfl rfl hr9 Tryd.underlying47 rfl (by kernel_rfl)) rfl (ValPost.flat 0 ⟨#[]⟩ 0 37 HQ2.out HRlt.out hg9 HD.out (fun h => absurd h (by decide)))

set_option maxRecDepth 100000 in
theorem value_empty3 (R : Nat) (z : Int) (s : ByteArray) (a : Nat) (w : World) (hz : fldE 3 z = 0) (hs : s.size ≤ 200000) (ha : a = s.size) (hR : RdrAt w R s a) :
    Calls Tryd.prog 33 #[.pointer (some ⟨R, 0, none⟩), .agg #[.int .i64 3, .int .i64 z]] w (ValPost (decF 3 z ((bl s).drop a)) R s a w) := by
  have hd : decF 3 z ((bl s).drop a) = (⟨0, ⟨#[]⟩, []⟩, 0, 37) := by unfold decF; rw [if_pos (by omega), if_pos (by rw [List.length_drop, bl_length]; omega)]; rfl
  have HD := Lib.hid hd
  have hop : opn 3 = true := rfl
  have HRlt := Lib.hid hR.lt
  have HR := Lib.hid hR
  have ha2 : 0 ≤ (a : Int) ∧ (a : Int) ≤ 200000 := by omega
  have hc2 : (0 : Int) ≤ 1 ∧ (1 : Int) ≤ 200000 := by omega
  have hno : (s.size : Int) - a < 1 := by omega
  clear hd hz hR
  go_enter Tryd.func33, Tryd.ntmps33
  go_wp2_with (first | (go_at_call 45; refine (isOpen_any _ _ _).mono ?_; rintro e W1 ⟨rfl, hb1⟩; have q1 := (VS.start (k := 3) (z := z) w R HR.out).below hb1; obtain ⟨x1, y1, ⟨s1a, s1b, s1⟩, v1⟩ := q1.facts; have r1 := q1.r; have HQ1 := Lib.hid q1; clear hb1 q1) | (go_at_call 56; (with_reducible refine (take_no R s a 1 _ hs ha2 hc2 r1 hno).mono ?_); rintro e W2 ⟨rfl, hb2⟩; have q2 := HQ1.out.below hb2; obtain ⟨x2, y2, ⟨s2a, s2b, s2⟩, v2⟩ := q2.facts; have HQ2 := Lib.hid q2; clear hb2 q2) | (refine wpList_store_newG rfl 47 (.tmp 4) (.tmp 25) rfl rfl (w.heap.size + 1) #[.int .i64 0, .string ⟨#[]⟩, .slice none 0 0] rfl rfl 47 _ (HQ2.out).o (by kernel_rfl) (by kernel_rfl) (by kernel_rfl) ?_; intro W9 hg9 hr9 _))
  exact bodyPost_ret (results_cell_tmp Tryd.results33 _ W9 (w.heap.size + 1) 47 _ _ _ rfl rfl hr9 Tryd.underlying47 rfl (by kernel_rfl)) rfl (ValPost.flat 0 ⟨#[]⟩ 0 37 HQ2.out HRlt.out hg9 HD.out (fun h => absurd h (by decide)))

set_option maxRecDepth 100000 in
set_option maxHeartbeats 1000000 in
theorem value_end2 (R : Nat) (z : Int) (s : ByteArray) (a : Nat) (w : World) (hz : fldE 2 z = 0) (hs : s.size ≤ 200000) (h0 : a < s.size) (hR : RdrAt w R s a) (h2 : (s.size : Int) < a + 1 + ((s[a]'h0).toNat : Int)) :
    Calls Tryd.prog 33 #[.pointer (some ⟨R, 0, none⟩), .agg #[.int .i64 2, .int .i64 z]] w (ValPost (decF 2 z ((bl s).drop a)) R s a w) := by
  obtain ⟨_, _, z1, z2⟩ := fldE_zero hz
  replace z1 : 0 ≤ z := z1
  replace z2 : z ≤ 255 := z2
  have h' : a < s.size := by omega
  have hg : ((bl s).drop a).getD 0 0 = s[a] := by rw [List.getD_eq_getElem?_getD, List.getElem?_drop, Nat.add_zero, List.getElem?_eq_getElem (by rw [bl_length]; exact h')]; rfl
  have hll : ((bl s).drop a).length = s.size - a := by rw [List.length_drop, bl_length]
  have hc8 := s[a].toNat_lt
  obtain ⟨m, hm⟩ : ∃ m : Nat, m = s[a].toNat := ⟨_, rfl⟩
  have e1 : bl (s.extract a (a + 1)) = [s[a]] := by rw [bl_extract, List.drop_take, Nat.add_sub_cancel_left, drop_bl s a h']; rfl
  have hN : ∀ W, Calls Tryd.prog 57 #[.string (s.extract a (a + 1))] W fun e w' => e = .returned (.int .i64 m) ∧ W = w' := fun W => by
    have := number_any (s.extract a (a + 1)) W (by rw [ByteArray.size_extract]; omega)
    rw [e1, show num [s[a]] = (m : Int) by rw [hm]; simp [num]] at this
    exact this
  have HN := Lib.hid hN
  rw [← hm] at h2 hc8
  have hk1 : a + 1 ≤ s.size := by omega
  have ha3 : 0 ≤ ((a + 1 : Nat) : Int) ∧ ((a + 1 : Nat) : Int) ≤ 200000 := by omega
  have hT1 : ∀ W, RdrAt W R s a → Calls Tryd.prog 56 #[.pointer (some ⟨R, 0, none⟩), .int .i64 1] W (TakeOk R s a 1 W) := fun W h => take_ok R s a 1 W hs h hk1
  have HT1 := Lib.hid hT1
  clear hT1
  have hd : decF 2 z ((bl s).drop a) = (⟨0, ⟨#[]⟩, []⟩, 0, 37) := by
    unfold decF; rw [hg, if_pos (by omega), if_neg (by omega), if_pos (by rw [hll, ← hm]; rw [if_neg (by omega)]; omega)]; rfl
  have HD := Lib.hid hd
  have hop : opn 2 = true := rfl
  have HRlt := Lib.hid hR.lt
  have HR := Lib.hid hR
  have ha2 : 0 ≤ (a : Int) ∧ (a : Int) ≤ 200000 := by omega
  have hc2 : 0 ≤ (m : Int) ∧ (m : Int) ≤ 200000 := by omega
  have hc3 : (0 : Int) ≤ 1 ∧ (1 : Int) ≤ 200000 := by omega
  have hno : (s.size : Int) - ((a + 1 : Nat) : Int) < (m : Int) := by omega
  clear hd hz hR hg hll hm hN e1 h2
  obtain ⟨B, hB⟩ : ∃ B, B = decide ((m : Int) ≤ z) := ⟨_, rfl⟩
  have hfe : (firstE [unl false 37, unl B 8] != 0) = true := rfl
  cases B
  · have hB' : z < m := by have := hB.symm; rw [decide_eq_false_iff_not] at this; omega
    clear hB
    go_enter Tryd.func33, Tryd.ntmps33
    go_wp2_with (first | (go_at_call 45; refine (isOpen_any _ _ _).mono ?_; rintro e W1 ⟨rfl, hb1⟩; have q1 := (VS.start (k := 2) (z := z) w R HR.out).below hb1; obtain ⟨x1, y1, ⟨s1a, s1b, s1⟩, v1⟩ := q1.facts; have r1 := q1.r; have HQ1 := Lib.hid q1; clear hb1 q1) | (go_at_call 56; (with_reducible refine (HT1.out _ r1).mono ?_); rintro e W2 ⟨rfl, hr2, hg2⟩; have q2 := HQ1.out.take HRlt.out hg2 hr2; obtain ⟨x2, y2, ⟨s2a, s2b, s2⟩, v2⟩ := q2.facts; have r2 := q2.r; have HQ2 := Lib.hid q2; clear hr2 hg2 q2) | (go_at_call 57; (with_reducible refine (HN.out _).mono ?_); rintro e w' ⟨rfl, rfl⟩) | (go_at_call 56; (with_reducible refine (take_no R s ((a + 1 : Nat) : Int) ((m : Int)) _ hs ha3 hc2 r2 hno).mono ?_); rintro e W3 ⟨rfl, hb3⟩; have q3 := HQ2.out.below hb3; obtain ⟨x3, y3, ⟨s3a, s3b, s3⟩, v3⟩ := q3.facts; have HQ3 := Lib.hid q3; clear hb3 q3))
    (refine wp_region_btail 7 (by kernel_rfl) (by kernel_rfl) ?_; simp only [List.take_succ_cons, List.take_zero, List.drop_succ_cons, List.drop_zero]; (repeat (go_big_quiet_step ((first | (go_at_call 44; exact Calls.reg_pure (unless_any _ _ _)))))); (with_reducible refine wpQuiet_nil ?_); intro W4 hreg; have hbW4 := below_of_reg hreg; clear hreg; obtain ⟨hcW4, hfW4⟩ := bcell hbW4)
    have q4 := HQ3.out.below hbW4
    obtain ⟨x4, y4, ⟨s4a, s4b, s4⟩, v4⟩ := q4.facts
    have HQ4 := Lib.hid q4
    clear hbW4 hcW4 hfW4 q4
    go_wp2_with (first | (go_at_call 31; refine (first_list [_, _] _ (by simp)).mono ?_; rintro e w' ⟨rfl, rfl⟩) | (refine wpList_store_newG rfl 47 (.tmp 4) (.tmp 50) rfl rfl (w.heap.size + 1) #[.int .i64 0, .string ⟨#[]⟩, .slice none 0 0] rfl rfl 47 _ (HQ4.out.alloc _).o (by kernel_rfl) (by kernel_rfl) (by kernel_rfl) ?_; intro W9 hg9 hr9 _))
    exact bodyPost_ret (results_cell_tmp Tryd.results33 _ W9 (w.heap.size + 1) 47 _ _ _ rfl rfl hr9 Tryd.underlying47 rfl (by kernel_rfl)) rfl (ValPost.flat 0 ⟨#[]⟩ 0 37 (HQ4.out.alloc _) HRlt.out hg9 HD.out (fun h => absurd h (by decide)))
  · have hB' : (m : Int) ≤ z := by have := hB.symm; rw [decide_eq_true_iff] at this; omega
    clear hB
    go_enter Tryd.func33, Tryd.ntmps33
    go_wp2_with (first | (go_at_call 45; refine (isOpen_any _ _ _).mono ?_; rintro e W1 ⟨rfl, hb1⟩; have q1 := (VS.start (k := 2) (z := z) w R HR.out).below hb1; obtain ⟨x1, y1, ⟨s1a, s1b, s1⟩, v1⟩ := q1.facts; have r1 := q1.r; have HQ1 := Lib.hid q1; clear hb1 q1) | (go_at_call 56; (with_reducible refine (HT1.out _ r1).mono ?_); rintro e W2 ⟨rfl, hr2, hg2⟩; have q2 := HQ1.out.take HRlt.out hg2 hr2; obtain ⟨x2, y2, ⟨s2a, s2b, s2⟩, v2⟩ := q2.facts; have r2 := q2.r; have HQ2 := Lib.hid q2; clear hr2 hg2 q2) | (go_at_call 57; (with_reducible refine (HN.out _).mono ?_); rintro e w' ⟨rfl, rfl⟩) | (go_at_call 56; (with_reducible refine (take_no R s ((a + 1 : Nat) : Int) ((m : Int)) _ hs ha3 hc2 r2 hno).mono ?_); rintro e W3 ⟨rfl, hb3⟩; have q3 := HQ2.out.below hb3; obtain ⟨x3, y3, ⟨s3a, s3b, s3⟩, v3⟩ := q3.facts; have HQ3 := Lib.hid q3; clear hb3 q3))
    (refine wp_region_btail 7 (by kernel_rfl) (by kernel_rfl) ?_; simp only [List.take_succ_cons, List.take_zero, List.drop_succ_cons, List.drop_zero]; (repeat (go_big_quiet_step ((first | (go_at_call 44; exact Calls.reg_pure (unless_any _ _ _)))))); (with_reducible refine wpQuiet_nil ?_); intro W4 hreg; have hbW4 := below_of_reg hreg; clear hreg; obtain ⟨hcW4, hfW4⟩ := bcell hbW4)
    have q4 := HQ3.out.below hbW4
    obtain ⟨x4, y4, ⟨s4a, s4b, s4⟩, v4⟩ := q4.facts
    have HQ4 := Lib.hid q4
    clear hbW4 hcW4 hfW4 q4
    go_wp2_with (first | (go_at_call 31; refine (first_list [_, _] _ (by simp)).mono ?_; rintro e w' ⟨rfl, rfl⟩) | (refine wpList_store_newG rfl 47 (.tmp 4) (.tmp 50) rfl rfl (w.heap.size + 1) #[.int .i64 0, .string ⟨#[]⟩, .slice none 0 0] rfl rfl 47 _ (HQ4.out.alloc _).o (by kernel_rfl) (by kernel_rfl) (by kernel_rfl) ?_; intro W9 hg9 hr9 _))
    exact bodyPost_ret (results_cell_tmp Tryd.results33 _ W9 (w.heap.size + 1) 47 _ _ _ rfl rfl hr9 Tryd.underlying47 rfl (by kernel_rfl)) rfl (ValPost.flat 0 ⟨#[]⟩ 0 37 (HQ4.out.alloc _) HRlt.out hg9 HD.out (fun h => absurd h (by decide)))

set_option maxRecDepth 100000 in
set_option maxHeartbeats 1000000 in
theorem value_large2 (R : Nat) (z : Int) (s : ByteArray) (a : Nat) (w : World) (hz : fldE 2 z = 0) (hs : s.size ≤ 200000) (h0 : a < s.size) (hR : RdrAt w R s a) (h2 : a + 1 + ((s[a]'h0).toNat : Int) ≤ (s.size : Int)) (h3 : z < (s[a]'h0).toNat) :
    Calls Tryd.prog 33 #[.pointer (some ⟨R, 0, none⟩), .agg #[.int .i64 2, .int .i64 z]] w (ValPost (decF 2 z ((bl s).drop a)) R s a w) := by
  obtain ⟨_, _, z1, z2⟩ := fldE_zero hz
  replace z1 : 0 ≤ z := z1
  replace z2 : z ≤ 255 := z2
  have h' : a < s.size := by omega
  have hg : ((bl s).drop a).getD 0 0 = s[a] := by rw [List.getD_eq_getElem?_getD, List.getElem?_drop, Nat.add_zero, List.getElem?_eq_getElem (by rw [bl_length]; exact h')]; rfl
  have hll : ((bl s).drop a).length = s.size - a := by rw [List.length_drop, bl_length]
  have hc8 := s[a].toNat_lt
  obtain ⟨m, hm⟩ : ∃ m : Nat, m = s[a].toNat := ⟨_, rfl⟩
  have e1 : bl (s.extract a (a + 1)) = [s[a]] := by rw [bl_extract, List.drop_take, Nat.add_sub_cancel_left, drop_bl s a h']; rfl
  have hN : ∀ W, Calls Tryd.prog 57 #[.string (s.extract a (a + 1))] W fun e w' => e = .returned (.int .i64 m) ∧ W = w' := fun W => by
    have := number_any (s.extract a (a + 1)) W (by rw [ByteArray.size_extract]; omega)
    rw [e1, show num [s[a]] = (m : Int) by rw [hm]; simp [num]] at this
    exact this
  have HN := Lib.hid hN
  rw [← hm] at h2 hc8
  have hk1 : a + 1 ≤ s.size := by omega
  have ha3 : 0 ≤ ((a + 1 : Nat) : Int) ∧ ((a + 1 : Nat) : Int) ≤ 200000 := by omega
  have hT1 : ∀ W, RdrAt W R s a → Calls Tryd.prog 56 #[.pointer (some ⟨R, 0, none⟩), .int .i64 1] W (TakeOk R s a 1 W) := fun W h => take_ok R s a 1 W hs h hk1
  have HT1 := Lib.hid hT1
  clear hT1
  rw [← hm] at h3
  have hd : decF 2 z ((bl s).drop a) = (⟨0, ⟨#[]⟩, []⟩, 0, 8) := by
    unfold decF; rw [hg, if_pos (by omega), if_neg (by omega), if_neg (by rw [hll, ← hm]; rw [if_neg (by omega)]; omega), if_pos (by rw [← hm]; exact h3)]; rfl
  have HD := Lib.hid hd
  have hop : opn 2 = true := rfl
  have HRlt := Lib.hid hR.lt
  have HR := Lib.hid hR
  have ha2 : 0 ≤ (a : Int) ∧ (a : Int) ≤ 200000 := by omega
  have hT : ∀ W, RdrAt W R s ((a + 1 : Nat) : Int) → Calls Tryd.prog 56 #[.pointer (some ⟨R, 0, none⟩), .int .i64 ((m : Int))] W (TakeOk R s (a + 1) (m) W) := fun W h => by
    have h9 := take_ok R s (a + 1) (m) W hs h (by omega)
    (try rw [show ((m : Nat) : Int) = (m : Int) by omega] at h9)
    exact h9
  have HT := Lib.hid hT
  have hle : decide ((m : Int) ≤ z) = false := decide_eq_false (by omega)
  have he8 : firstE [unl true 37, unl (decide ((m : Int) ≤ z)) 8] = 8 := by rw [hle]; rfl
  have hfe : (firstE [unl true 37, unl (decide ((m : Int) ≤ z)) 8] != 0) = true := by rw [he8]; rfl
  have HE8 := Lib.hid he8
  clear hle he8
  clear hd hz hR hg hll hm hN e1 hT
  go_enter Tryd.func33, Tryd.ntmps33
  go_wp2_with (first | (go_at_call 45; refine (isOpen_any _ _ _).mono ?_; rintro e W1 ⟨rfl, hb1⟩; have q1 := (VS.start (k := 2) (z := z) w R HR.out).below hb1; obtain ⟨x1, y1, ⟨s1a, s1b, s1⟩, v1⟩ := q1.facts; have r1 := q1.r; have HQ1 := Lib.hid q1; clear hb1 q1) | (go_at_call 56; (with_reducible refine (HT1.out _ r1).mono ?_); rintro e W2 ⟨rfl, hr2, hg2⟩; have q2 := HQ1.out.take HRlt.out hg2 hr2; obtain ⟨x2, y2, ⟨s2a, s2b, s2⟩, v2⟩ := q2.facts; have r2 := q2.r; have HQ2 := Lib.hid q2; clear hr2 hg2 q2) | (go_at_call 57; (with_reducible refine (HN.out _).mono ?_); rintro e w' ⟨rfl, rfl⟩) | (go_at_call 56; (with_reducible refine (HT.out _ r2).mono ?_); rintro e W3 ⟨rfl, hr3, hg3⟩; have q3 := HQ2.out.take HRlt.out hg3 hr3; obtain ⟨x3, y3, ⟨s3a, s3b, s3⟩, v3⟩ := q3.facts; have HQ3 := Lib.hid q3; clear hr3 hg3 q3))
  (refine wp_region_btail 7 (by kernel_rfl) (by kernel_rfl) ?_; simp only [List.take_succ_cons, List.take_zero, List.drop_succ_cons, List.drop_zero]; (repeat (go_big_quiet_step ((first | (go_at_call 44; exact Calls.reg_pure (unless_any _ _ _)))))); (with_reducible refine wpQuiet_nil ?_); intro W4 hreg; have hbW4 := below_of_reg hreg; clear hreg; obtain ⟨hcW4, hfW4⟩ := bcell hbW4)
  have q4 := HQ3.out.below hbW4
  obtain ⟨x4, y4, ⟨s4a, s4b, s4⟩, v4⟩ := q4.facts
  have HQ4 := Lib.hid q4
  clear hbW4 hcW4 hfW4 q4
  go_wp2_with (first | (go_at_call 31; refine (first_list [_, _] _ (by simp)).mono ?_; rintro e w' ⟨rfl, rfl⟩) | (refine wpList_store_newG rfl 47 (.tmp 4) (.tmp 50) rfl rfl (w.heap.size + 1) #[.int .i64 0, .string ⟨#[]⟩, .slice none 0 0] rfl rfl 47 _ (HQ4.out.alloc _).o (by kernel_rfl) (by kernel_rfl) (by kernel_rfl) ?_; intro W9 hg9 hr9 _))
  exact bodyPost_ret (results_cell_tmp Tryd.results33 _ W9 (w.heap.size + 1) 47 _ _ _ rfl rfl hr9 Tryd.underlying47 rfl (by kernel_rfl)) rfl (ValPost.flat 0 ⟨#[]⟩ 0 _ (HQ4.out.alloc _) HRlt.out hg9 (HD.out.trans (by rw [HE8.out])) (fun h => absurd h (by rw [HE8.out]; decide)))

set_option maxRecDepth 100000 in
set_option maxHeartbeats 2000000 in
theorem value_full2 (R : Nat) (z : Int) (s : ByteArray) (a : Nat) (w : World) (hz : fldE 2 z = 0) (hs : s.size ≤ 200000) (h0 : a < s.size) (hR : RdrAt w R s a) (h2 : a + 1 + ((s[a]'h0).toNat : Int) ≤ (s.size : Int)) (h3 : ((s[a]'h0).toNat : Int) ≤ z) :
    Calls Tryd.prog 33 #[.pointer (some ⟨R, 0, none⟩), .agg #[.int .i64 2, .int .i64 z]] w (ValPost (decF 2 z ((bl s).drop a)) R s a w) := by
  obtain ⟨_, _, z1, z2⟩ := fldE_zero hz
  replace z1 : 0 ≤ z := z1
  replace z2 : z ≤ 255 := z2
  have h' : a < s.size := by omega
  have hg : ((bl s).drop a).getD 0 0 = s[a] := by rw [List.getD_eq_getElem?_getD, List.getElem?_drop, Nat.add_zero, List.getElem?_eq_getElem (by rw [bl_length]; exact h')]; rfl
  have hll : ((bl s).drop a).length = s.size - a := by rw [List.length_drop, bl_length]
  have hc8 := s[a].toNat_lt
  obtain ⟨m, hm⟩ : ∃ m : Nat, m = s[a].toNat := ⟨_, rfl⟩
  have e1 : bl (s.extract a (a + 1)) = [s[a]] := by rw [bl_extract, List.drop_take, Nat.add_sub_cancel_left, drop_bl s a h']; rfl
  have hN : ∀ W, Calls Tryd.prog 57 #[.string (s.extract a (a + 1))] W fun e w' => e = .returned (.int .i64 m) ∧ W = w' := fun W => by
    have := number_any (s.extract a (a + 1)) W (by rw [ByteArray.size_extract]; omega)
    rw [e1, show num [s[a]] = (m : Int) by rw [hm]; simp [num]] at this
    exact this
  have HN := Lib.hid hN
  rw [← hm] at h2 hc8
  have hk1 : a + 1 ≤ s.size := by omega
  have ha3 : 0 ≤ ((a + 1 : Nat) : Int) ∧ ((a + 1 : Nat) : Int) ≤ 200000 := by omega
  have hT1 : ∀ W, RdrAt W R s a → Calls Tryd.prog 56 #[.pointer (some ⟨R, 0, none⟩), .int .i64 1] W (TakeOk R s a 1 W) := fun W h => take_ok R s a 1 W hs h hk1
  have HT1 := Lib.hid hT1
  clear hT1
  rw [← hm] at h3
  have hd : decF 2 z ((bl s).drop a) = (⟨0, s.extract (a + 1) (a + 1 + m), []⟩, 1 + m, 0) := by
    unfold decF; rw [hg, ← hm, if_pos (by omega), if_neg (by omega), if_neg (by rw [hll]; rw [if_neg (by omega)]; omega), if_neg (by omega), if_pos rfl]
    congr 2
    apply bl_inj; rw [bl_bs, bl_extract, List.drop_take, Nat.add_sub_cancel_left, List.drop_drop]
  have HD := Lib.hid hd
  have hop : opn 2 = true := rfl
  have HRlt := Lib.hid hR.lt
  have HR := Lib.hid hR
  have ha2 : 0 ≤ (a : Int) ∧ (a : Int) ≤ 200000 := by omega
  have hT : ∀ W, RdrAt W R s ((a + 1 : Nat) : Int) → Calls Tryd.prog 56 #[.pointer (some ⟨R, 0, none⟩), .int .i64 ((m : Int))] W (TakeOk R s (a + 1) (m) W) := fun W h => by
    have h9 := take_ok R s (a + 1) (m) W hs h (by omega)
    (try rw [show ((m : Nat) : Int) = (m : Int) by omega] at h9)
    exact h9
  have HT := Lib.hid hT
  have hfe : (firstE [unl true 37, unl true 8] != 0) = false := rfl
  clear hd hz hR hg hll hm hN e1 hT
  go_enter Tryd.func33, Tryd.ntmps33
  go_wp2_with (first | (go_at_call 45; refine (isOpen_any _ _ _).mono ?_; rintro e W1 ⟨rfl, hb1⟩; have q1 := (VS.start (k := 2) (z := z) w R HR.out).below hb1; obtain ⟨x1, y1, ⟨s1a, s1b, s1⟩, v1⟩ := q1.facts; have r1 := q1.r; have HQ1 := Lib.hid q1; clear hb1 q1) | (go_at_call 56; (with_reducible refine (HT1.out _ r1).mono ?_); rintro e W2 ⟨rfl, hr2, hg2⟩; have q2 := HQ1.out.take HRlt.out hg2 hr2; obtain ⟨x2, y2, ⟨s2a, s2b, s2⟩, v2⟩ := q2.facts; have r2 := q2.r; have HQ2 := Lib.hid q2; clear hr2 hg2 q2) | (go_at_call 57; (with_reducible refine (HN.out _).mono ?_); rintro e w' ⟨rfl, rfl⟩) | (go_at_call 56; (with_reducible refine (HT.out _ r2).mono ?_); rintro e W3 ⟨rfl, hr3, hg3⟩; have q3 := HQ2.out.take HRlt.out hg3 hr3; obtain ⟨x3, y3, ⟨s3a, s3b, s3⟩, v3⟩ := q3.facts; have HQ3 := Lib.hid q3; clear hr3 hg3 q3))
  (refine wp_region_btail 7 (by kernel_rfl) (by kernel_rfl) ?_; simp only [List.take_succ_cons, List.take_zero, List.drop_succ_cons, List.drop_zero]; (repeat (go_big_quiet_step ((first | (go_at_call 44; exact Calls.reg_pure (unless_any _ _ _)))))); (with_reducible refine wpQuiet_nil ?_); intro W4 hreg; have hbW4 := below_of_reg hreg; clear hreg; obtain ⟨hcW4, hfW4⟩ := bcell hbW4)
  have q4 := HQ3.out.below hbW4
  obtain ⟨x4, y4, ⟨s4a, s4b, s4⟩, v4⟩ := q4.facts
  have HQ4 := Lib.hid q4
  clear hbW4 hcW4 hfW4 q4
  go_wp2_with (first | (go_at_call 31; refine (first_list [_, _] _ (by simp)).mono ?_; rintro e w' ⟨rfl, rfl⟩) | (refine wpList_store_fieldG rfl 9 (.tmp 55) (.tmp 54) rfl rfl (w.heap.size + 2) 1 (.string (s.extract (a + 1) (a + 1 + m))) rfl rfl rfl (by kernel_rfl) 47 _ (HQ4.out.alloc _).v (by show 1 < 3; omega) ?_; intro W5 hg5 hv5 _; have q5 := (HQ4.out.alloc _).setv HRlt.out hg5 hv5; obtain ⟨x5, y5, ⟨s5a, s5b, s5⟩, v5⟩ := q5.facts; have HQ5 := Lib.hid q5; clear hg5 hv5 q5) | (refine wpList_store_newG rfl 47 (.tmp 4) (.tmp 84) rfl rfl (w.heap.size + 1) #[.int .i64 0, .string (s.extract (a + 1) (a + 1 + m)), .slice none 0 0] rfl rfl 47 _ (HQ5.out).o (by kernel_rfl) (by kernel_rfl) (by kernel_rfl) ?_; intro W9 hg9 hr9 _))
  exact bodyPost_ret (results_cell_tmp Tryd.results33 _ W9 (w.heap.size + 1) 47 _ _ _ rfl rfl hr9 Tryd.underlying47 rfl (by kernel_rfl)) rfl (ValPost.flat 0 _ (1 + m) 0 HQ5.out HRlt.out hg9 HD.out (fun _ => by omega))

set_option maxRecDepth 100000 in
set_option maxHeartbeats 1000000 in
theorem value_end3 (R : Nat) (z : Int) (s : ByteArray) (a : Nat) (w : World) (hz : fldE 3 z = 0) (hs : s.size ≤ 200000) (h0 : a < s.size) (hR : RdrAt w R s a) (h2 : (s.size : Int) < a + 1 + 2 * ((s[a]'h0).toNat : Int)) :
    Calls Tryd.prog 33 #[.pointer (some ⟨R, 0, none⟩), .agg #[.int .i64 3, .int .i64 z]] w (ValPost (decF 3 z ((bl s).drop a)) R s a w) := by
  obtain ⟨_, _, z1, z2⟩ := fldE_zero hz
  replace z1 : 0 ≤ z := z1
  replace z2 : z ≤ 127 := z2
  have h' : a < s.size := by omega
  have hg : ((bl s).drop a).getD 0 0 = s[a] := by rw [List.getD_eq_getElem?_getD, List.getElem?_drop, Nat.add_zero, List.getElem?_eq_getElem (by rw [bl_length]; exact h')]; rfl
  have hll : ((bl s).drop a).length = s.size - a := by rw [List.length_drop, bl_length]
  have hc8 := s[a].toNat_lt
  obtain ⟨m, hm⟩ : ∃ m : Nat, m = s[a].toNat := ⟨_, rfl⟩
  have e1 : bl (s.extract a (a + 1)) = [s[a]] := by rw [bl_extract, List.drop_take, Nat.add_sub_cancel_left, drop_bl s a h']; rfl
  have hN : ∀ W, Calls Tryd.prog 57 #[.string (s.extract a (a + 1))] W fun e w' => e = .returned (.int .i64 m) ∧ W = w' := fun W => by
    have := number_any (s.extract a (a + 1)) W (by rw [ByteArray.size_extract]; omega)
    rw [e1, show num [s[a]] = (m : Int) by rw [hm]; simp [num]] at this
    exact this
  have HN := Lib.hid hN
  rw [← hm] at h2 hc8
  have hk1 : a + 1 ≤ s.size := by omega
  have ha3 : 0 ≤ ((a + 1 : Nat) : Int) ∧ ((a + 1 : Nat) : Int) ≤ 200000 := by omega
  have hT1 : ∀ W, RdrAt W R s a → Calls Tryd.prog 56 #[.pointer (some ⟨R, 0, none⟩), .int .i64 1] W (TakeOk R s a 1 W) := fun W h => take_ok R s a 1 W hs h hk1
  have HT1 := Lib.hid hT1
  clear hT1
  have hd : decF 3 z ((bl s).drop a) = (⟨0, ⟨#[]⟩, []⟩, 0, 37) := by
    unfold decF; rw [hg, if_pos (by omega), if_neg (by omega), if_pos (by rw [hll, ← hm]; rw [if_pos rfl]; omega)]; rfl
  have HD := Lib.hid hd
  have hop : opn 3 = true := rfl
  have HRlt := Lib.hid hR.lt
  have HR := Lib.hid hR
  have ha2 : 0 ≤ (a : Int) ∧ (a : Int) ≤ 200000 := by omega
  have hc2 : 0 ≤ (m : Int) * 2 ∧ (m : Int) * 2 ≤ 200000 := by omega
  have hc3 : (0 : Int) ≤ 1 ∧ (1 : Int) ≤ 200000 := by omega
  have hno : (s.size : Int) - ((a + 1 : Nat) : Int) < (m : Int) * 2 := by omega
  clear hd hz hR hg hll hm hN e1 h2
  obtain ⟨B, hB⟩ : ∃ B, B = decide ((m : Int) ≤ z) := ⟨_, rfl⟩
  have hfe : (firstE [unl false 37, unl B 8] != 0) = true := rfl
  cases B
  · have hB' : z < m := by have := hB.symm; rw [decide_eq_false_iff_not] at this; omega
    clear hB
    go_enter Tryd.func33, Tryd.ntmps33
    go_wp2_with (first | (go_at_call 45; refine (isOpen_any _ _ _).mono ?_; rintro e W1 ⟨rfl, hb1⟩; have q1 := (VS.start (k := 3) (z := z) w R HR.out).below hb1; obtain ⟨x1, y1, ⟨s1a, s1b, s1⟩, v1⟩ := q1.facts; have r1 := q1.r; have HQ1 := Lib.hid q1; clear hb1 q1) | (go_at_call 56; (with_reducible refine (HT1.out _ r1).mono ?_); rintro e W2 ⟨rfl, hr2, hg2⟩; have q2 := HQ1.out.take HRlt.out hg2 hr2; obtain ⟨x2, y2, ⟨s2a, s2b, s2⟩, v2⟩ := q2.facts; have r2 := q2.r; have HQ2 := Lib.hid q2; clear hr2 hg2 q2) | (go_at_call 57; (with_reducible refine (HN.out _).mono ?_); rintro e w' ⟨rfl, rfl⟩) | (go_at_call 56; (with_reducible refine (take_no R s ((a + 1 : Nat) : Int) ((m : Int) * 2) _ hs ha3 hc2 r2 hno).mono ?_); rintro e W3 ⟨rfl, hb3⟩; have q3 := HQ2.out.below hb3; obtain ⟨x3, y3, ⟨s3a, s3b, s3⟩, v3⟩ := q3.facts; have HQ3 := Lib.hid q3; clear hb3 q3))
    (refine wp_region_btail 7 (by kernel_rfl) (by kernel_rfl) ?_; simp only [List.take_succ_cons, List.take_zero, List.drop_succ_cons, List.drop_zero]; (repeat (go_big_quiet_step ((first | (go_at_call 44; exact Calls.reg_pure (unless_any _ _ _)))))); (with_reducible refine wpQuiet_nil ?_); intro W4 hreg; have hbW4 := below_of_reg hreg; clear hreg; obtain ⟨hcW4, hfW4⟩ := bcell hbW4)
    have q4 := HQ3.out.below hbW4
    obtain ⟨x4, y4, ⟨s4a, s4b, s4⟩, v4⟩ := q4.facts
    have HQ4 := Lib.hid q4
    clear hbW4 hcW4 hfW4 q4
    go_wp2_with (first | (go_at_call 31; refine (first_list [_, _] _ (by simp)).mono ?_; rintro e w' ⟨rfl, rfl⟩) | (refine wpList_store_newG rfl 47 (.tmp 4) (.tmp 50) rfl rfl (w.heap.size + 1) #[.int .i64 0, .string ⟨#[]⟩, .slice none 0 0] rfl rfl 47 _ (HQ4.out.alloc _).o (by kernel_rfl) (by kernel_rfl) (by kernel_rfl) ?_; intro W9 hg9 hr9 _))
    exact bodyPost_ret (results_cell_tmp Tryd.results33 _ W9 (w.heap.size + 1) 47 _ _ _ rfl rfl hr9 Tryd.underlying47 rfl (by kernel_rfl)) rfl (ValPost.flat 0 ⟨#[]⟩ 0 37 (HQ4.out.alloc _) HRlt.out hg9 HD.out (fun h => absurd h (by decide)))
  · have hB' : (m : Int) ≤ z := by have := hB.symm; rw [decide_eq_true_iff] at this; omega
    clear hB
    go_enter Tryd.func33, Tryd.ntmps33
    go_wp2_with (first | (go_at_call 45; refine (isOpen_any _ _ _).mono ?_; rintro e W1 ⟨rfl, hb1⟩; have q1 := (VS.start (k := 3) (z := z) w R HR.out).below hb1; obtain ⟨x1, y1, ⟨s1a, s1b, s1⟩, v1⟩ := q1.facts; have r1 := q1.r; have HQ1 := Lib.hid q1; clear hb1 q1) | (go_at_call 56; (with_reducible refine (HT1.out _ r1).mono ?_); rintro e W2 ⟨rfl, hr2, hg2⟩; have q2 := HQ1.out.take HRlt.out hg2 hr2; obtain ⟨x2, y2, ⟨s2a, s2b, s2⟩, v2⟩ := q2.facts; have r2 := q2.r; have HQ2 := Lib.hid q2; clear hr2 hg2 q2) | (go_at_call 57; (with_reducible refine (HN.out _).mono ?_); rintro e w' ⟨rfl, rfl⟩) | (go_at_call 56; (with_reducible refine (take_no R s ((a + 1 : Nat) : Int) ((m : Int) * 2) _ hs ha3 hc2 r2 hno).mono ?_); rintro e W3 ⟨rfl, hb3⟩; have q3 := HQ2.out.below hb3; obtain ⟨x3, y3, ⟨s3a, s3b, s3⟩, v3⟩ := q3.facts; have HQ3 := Lib.hid q3; clear hb3 q3))
    (refine wp_region_btail 7 (by kernel_rfl) (by kernel_rfl) ?_; simp only [List.take_succ_cons, List.take_zero, List.drop_succ_cons, List.drop_zero]; (repeat (go_big_quiet_step ((first | (go_at_call 44; exact Calls.reg_pure (unless_any _ _ _)))))); (with_reducible refine wpQuiet_nil ?_); intro W4 hreg; have hbW4 := below_of_reg hreg; clear hreg; obtain ⟨hcW4, hfW4⟩ := bcell hbW4)
    have q4 := HQ3.out.below hbW4
    obtain ⟨x4, y4, ⟨s4a, s4b, s4⟩, v4⟩ := q4.facts
    have HQ4 := Lib.hid q4
    clear hbW4 hcW4 hfW4 q4
    go_wp2_with (first | (go_at_call 31; refine (first_list [_, _] _ (by simp)).mono ?_; rintro e w' ⟨rfl, rfl⟩) | (refine wpList_store_newG rfl 47 (.tmp 4) (.tmp 50) rfl rfl (w.heap.size + 1) #[.int .i64 0, .string ⟨#[]⟩, .slice none 0 0] rfl rfl 47 _ (HQ4.out.alloc _).o (by kernel_rfl) (by kernel_rfl) (by kernel_rfl) ?_; intro W9 hg9 hr9 _))
    exact bodyPost_ret (results_cell_tmp Tryd.results33 _ W9 (w.heap.size + 1) 47 _ _ _ rfl rfl hr9 Tryd.underlying47 rfl (by kernel_rfl)) rfl (ValPost.flat 0 ⟨#[]⟩ 0 37 (HQ4.out.alloc _) HRlt.out hg9 HD.out (fun h => absurd h (by decide)))

set_option maxRecDepth 100000 in
set_option maxHeartbeats 1000000 in
theorem value_large3 (R : Nat) (z : Int) (s : ByteArray) (a : Nat) (w : World) (hz : fldE 3 z = 0) (hs : s.size ≤ 200000) (h0 : a < s.size) (hR : RdrAt w R s a) (h2 : a + 1 + 2 * ((s[a]'h0).toNat : Int) ≤ (s.size : Int)) (h3 : z < (s[a]'h0).toNat) :
    Calls Tryd.prog 33 #[.pointer (some ⟨R, 0, none⟩), .agg #[.int .i64 3, .int .i64 z]] w (ValPost (decF 3 z ((bl s).drop a)) R s a w) := by
  obtain ⟨_, _, z1, z2⟩ := fldE_zero hz
  replace z1 : 0 ≤ z := z1
  replace z2 : z ≤ 127 := z2
  have h' : a < s.size := by omega
  have hg : ((bl s).drop a).getD 0 0 = s[a] := by rw [List.getD_eq_getElem?_getD, List.getElem?_drop, Nat.add_zero, List.getElem?_eq_getElem (by rw [bl_length]; exact h')]; rfl
  have hll : ((bl s).drop a).length = s.size - a := by rw [List.length_drop, bl_length]
  have hc8 := s[a].toNat_lt
  obtain ⟨m, hm⟩ : ∃ m : Nat, m = s[a].toNat := ⟨_, rfl⟩
  have e1 : bl (s.extract a (a + 1)) = [s[a]] := by rw [bl_extract, List.drop_take, Nat.add_sub_cancel_left, drop_bl s a h']; rfl
  have hN : ∀ W, Calls Tryd.prog 57 #[.string (s.extract a (a + 1))] W fun e w' => e = .returned (.int .i64 m) ∧ W = w' := fun W => by
    have := number_any (s.extract a (a + 1)) W (by rw [ByteArray.size_extract]; omega)
    rw [e1, show num [s[a]] = (m : Int) by rw [hm]; simp [num]] at this
    exact this
  have HN := Lib.hid hN
  rw [← hm] at h2 hc8
  have hk1 : a + 1 ≤ s.size := by omega
  have ha3 : 0 ≤ ((a + 1 : Nat) : Int) ∧ ((a + 1 : Nat) : Int) ≤ 200000 := by omega
  have hT1 : ∀ W, RdrAt W R s a → Calls Tryd.prog 56 #[.pointer (some ⟨R, 0, none⟩), .int .i64 1] W (TakeOk R s a 1 W) := fun W h => take_ok R s a 1 W hs h hk1
  have HT1 := Lib.hid hT1
  clear hT1
  rw [← hm] at h3
  have hd : decF 3 z ((bl s).drop a) = (⟨0, ⟨#[]⟩, []⟩, 0, 8) := by
    unfold decF; rw [hg, if_pos (by omega), if_neg (by omega), if_neg (by rw [hll, ← hm]; rw [if_pos rfl]; omega), if_pos (by rw [← hm]; exact h3)]; rfl
  have HD := Lib.hid hd
  have hop : opn 3 = true := rfl
  have HRlt := Lib.hid hR.lt
  have HR := Lib.hid hR
  have ha2 : 0 ≤ (a : Int) ∧ (a : Int) ≤ 200000 := by omega
  have hT : ∀ W, RdrAt W R s ((a + 1 : Nat) : Int) → Calls Tryd.prog 56 #[.pointer (some ⟨R, 0, none⟩), .int .i64 ((m : Int) * 2)] W (TakeOk R s (a + 1) (m * 2) W) := fun W h => by
    have h9 := take_ok R s (a + 1) (m * 2) W hs h (by omega)
    (try rw [show ((m * 2 : Nat) : Int) = (m : Int) * 2 by omega] at h9)
    exact h9
  have HT := Lib.hid hT
  have hle : decide ((m : Int) ≤ z) = false := decide_eq_false (by omega)
  have he8 : firstE [unl true 37, unl (decide ((m : Int) ≤ z)) 8] = 8 := by rw [hle]; rfl
  have hfe : (firstE [unl true 37, unl (decide ((m : Int) ≤ z)) 8] != 0) = true := by rw [he8]; rfl
  have HE8 := Lib.hid he8
  clear hle he8
  clear hd hz hR hg hll hm hN e1 hT
  go_enter Tryd.func33, Tryd.ntmps33
  go_wp2_with (first | (go_at_call 45; refine (isOpen_any _ _ _).mono ?_; rintro e W1 ⟨rfl, hb1⟩; have q1 := (VS.start (k := 3) (z := z) w R HR.out).below hb1; obtain ⟨x1, y1, ⟨s1a, s1b, s1⟩, v1⟩ := q1.facts; have r1 := q1.r; have HQ1 := Lib.hid q1; clear hb1 q1) | (go_at_call 56; (with_reducible refine (HT1.out _ r1).mono ?_); rintro e W2 ⟨rfl, hr2, hg2⟩; have q2 := HQ1.out.take HRlt.out hg2 hr2; obtain ⟨x2, y2, ⟨s2a, s2b, s2⟩, v2⟩ := q2.facts; have r2 := q2.r; have HQ2 := Lib.hid q2; clear hr2 hg2 q2) | (go_at_call 57; (with_reducible refine (HN.out _).mono ?_); rintro e w' ⟨rfl, rfl⟩) | (go_at_call 56; (with_reducible refine (HT.out _ r2).mono ?_); rintro e W3 ⟨rfl, hr3, hg3⟩; have q3 := HQ2.out.take HRlt.out hg3 hr3; obtain ⟨x3, y3, ⟨s3a, s3b, s3⟩, v3⟩ := q3.facts; have HQ3 := Lib.hid q3; clear hr3 hg3 q3))
  (refine wp_region_btail 7 (by kernel_rfl) (by kernel_rfl) ?_; simp only [List.take_succ_cons, List.take_zero, List.drop_succ_cons, List.drop_zero]; (repeat (go_big_quiet_step ((first | (go_at_call 44; exact Calls.reg_pure (unless_any _ _ _)))))); (with_reducible refine wpQuiet_nil ?_); intro W4 hreg; have hbW4 := below_of_reg hreg; clear hreg; obtain ⟨hcW4, hfW4⟩ := bcell hbW4)
  have q4 := HQ3.out.below hbW4
  obtain ⟨x4, y4, ⟨s4a, s4b, s4⟩, v4⟩ := q4.facts
  have HQ4 := Lib.hid q4
  clear hbW4 hcW4 hfW4 q4
  go_wp2_with (first | (go_at_call 31; refine (first_list [_, _] _ (by simp)).mono ?_; rintro e w' ⟨rfl, rfl⟩) | (refine wpList_store_newG rfl 47 (.tmp 4) (.tmp 50) rfl rfl (w.heap.size + 1) #[.int .i64 0, .string ⟨#[]⟩, .slice none 0 0] rfl rfl 47 _ (HQ4.out.alloc _).o (by kernel_rfl) (by kernel_rfl) (by kernel_rfl) ?_; intro W9 hg9 hr9 _))
  exact bodyPost_ret (results_cell_tmp Tryd.results33 _ W9 (w.heap.size + 1) 47 _ _ _ rfl rfl hr9 Tryd.underlying47 rfl (by kernel_rfl)) rfl (ValPost.flat 0 ⟨#[]⟩ 0 _ (HQ4.out.alloc _) HRlt.out hg9 (HD.out.trans (by rw [HE8.out])) (fun h => absurd h (by rw [HE8.out]; decide)))

set_option maxRecDepth 100000 in
set_option maxHeartbeats 2000000 in
theorem value_full3 (R : Nat) (z : Int) (s : ByteArray) (a : Nat) (w : World) (hz : fldE 3 z = 0) (hs : s.size ≤ 200000) (h0 : a < s.size) (hR : RdrAt w R s a) (h2 : a + 1 + 2 * ((s[a]'h0).toNat : Int) ≤ (s.size : Int)) (h3 : ((s[a]'h0).toNat : Int) ≤ z) :
    Calls Tryd.prog 33 #[.pointer (some ⟨R, 0, none⟩), .agg #[.int .i64 3, .int .i64 z]] w (ValPost (decF 3 z ((bl s).drop a)) R s a w) := by
  obtain ⟨_, _, z1, z2⟩ := fldE_zero hz
  replace z1 : 0 ≤ z := z1
  replace z2 : z ≤ 127 := z2
  have h' : a < s.size := by omega
  have hg : ((bl s).drop a).getD 0 0 = s[a] := by rw [List.getD_eq_getElem?_getD, List.getElem?_drop, Nat.add_zero, List.getElem?_eq_getElem (by rw [bl_length]; exact h')]; rfl
  have hll : ((bl s).drop a).length = s.size - a := by rw [List.length_drop, bl_length]
  have hc8 := s[a].toNat_lt
  obtain ⟨m, hm⟩ : ∃ m : Nat, m = s[a].toNat := ⟨_, rfl⟩
  have e1 : bl (s.extract a (a + 1)) = [s[a]] := by rw [bl_extract, List.drop_take, Nat.add_sub_cancel_left, drop_bl s a h']; rfl
  have hN : ∀ W, Calls Tryd.prog 57 #[.string (s.extract a (a + 1))] W fun e w' => e = .returned (.int .i64 m) ∧ W = w' := fun W => by
    have := number_any (s.extract a (a + 1)) W (by rw [ByteArray.size_extract]; omega)
    rw [e1, show num [s[a]] = (m : Int) by rw [hm]; simp [num]] at this
    exact this
  have HN := Lib.hid hN
  rw [← hm] at h2 hc8
  have hk1 : a + 1 ≤ s.size := by omega
  have ha3 : 0 ≤ ((a + 1 : Nat) : Int) ∧ ((a + 1 : Nat) : Int) ≤ 200000 := by omega
  have hT1 : ∀ W, RdrAt W R s a → Calls Tryd.prog 56 #[.pointer (some ⟨R, 0, none⟩), .int .i64 1] W (TakeOk R s a 1 W) := fun W h => take_ok R s a 1 W hs h hk1
  have HT1 := Lib.hid hT1
  clear hT1
  rw [← hm] at h3
  have hd : decF 3 z ((bl s).drop a) = (⟨0, ⟨#[]⟩, listN ((bl s).drop (a + 1)) m⟩, 1 + 2 * m, 0) := by
    unfold decF; rw [hg, ← hm, if_pos (by omega), if_neg (by omega), if_neg (by rw [hll]; rw [if_pos rfl]; omega), if_neg (by omega), if_neg (by omega), List.drop_drop]
  have HD := Lib.hid hd
  have hop : opn 3 = true := rfl
  have HRlt := Lib.hid hR.lt
  have HR := Lib.hid hR
  have ha2 : 0 ≤ (a : Int) ∧ (a : Int) ≤ 200000 := by omega
  have hT : ∀ W, RdrAt W R s ((a + 1 : Nat) : Int) → Calls Tryd.prog 56 #[.pointer (some ⟨R, 0, none⟩), .int .i64 ((m : Int) * 2)] W (TakeOk R s (a + 1) (m * 2) W) := fun W h => by
    have h9 := take_ok R s (a + 1) (m * 2) W hs h (by omega)
    (try rw [show ((m * 2 : Nat) : Int) = (m : Int) * 2 by omega] at h9)
    exact h9
  have HT := Lib.hid hT
  have hfe : (firstE [unl true 37, unl true 8] != 0) = false := rfl
  clear hd hz hR hg hll hm hN e1 hT
  obtain ⟨i0, hi, hz0, hz1, hz2⟩ := info_parts info_int
  have h4 : a + 1 + m * 2 ≤ s.size := by omega
  have hx0 : bl (s.extract (a + 1) (a + 1 + m * 2)) = ((bl s).drop (a + 1)).take (2 * m) := by rw [bl_extract, List.drop_take, Nat.add_sub_cancel_left, Nat.mul_comm]
  have HX0 := Lib.hid hx0
  clear hx0
  go_enter Tryd.func33, Tryd.ntmps33
  go_wp2_with (first | (go_at_call 45; refine (isOpen_any _ _ _).mono ?_; rintro e W1 ⟨rfl, hb1⟩; have q1 := (VS.start (k := 3) (z := z) w R HR.out).below hb1; obtain ⟨x1, y1, ⟨s1a, s1b, s1⟩, v1⟩ := q1.facts; have r1 := q1.r; have HQ1 := Lib.hid q1; clear hb1 q1) | (go_at_call 56; (with_reducible refine (HT1.out _ r1).mono ?_); rintro e W2 ⟨rfl, hr2, hg2⟩; have q2 := HQ1.out.take HRlt.out hg2 hr2; obtain ⟨x2, y2, ⟨s2a, s2b, s2⟩, v2⟩ := q2.facts; have r2 := q2.r; have HQ2 := Lib.hid q2; clear hr2 hg2 q2) | (go_at_call 57; (with_reducible refine (HN.out _).mono ?_); rintro e w' ⟨rfl, rfl⟩) | (go_at_call 56; (with_reducible refine (HT.out _ r2).mono ?_); rintro e W3 ⟨rfl, hr3, hg3⟩; have q3 := HQ2.out.take HRlt.out hg3 hr3; obtain ⟨x3, y3, ⟨s3a, s3b, s3⟩, v3⟩ := q3.facts; have HQ3 := Lib.hid q3; clear hr3 hg3 q3))
  (refine wp_region_btail 7 (by kernel_rfl) (by kernel_rfl) ?_; simp only [List.take_succ_cons, List.take_zero, List.drop_succ_cons, List.drop_zero]; (repeat (go_big_quiet_step ((first | (go_at_call 44; exact Calls.reg_pure (unless_any _ _ _)))))); (with_reducible refine wpQuiet_nil ?_); intro W4 hreg; have hbW4 := below_of_reg hreg; clear hreg; obtain ⟨hcW4, hfW4⟩ := bcell hbW4)
  have q4 := HQ3.out.below hbW4
  obtain ⟨x4, y4, ⟨s4a, s4b, s4⟩, v4⟩ := q4.facts
  have HQ4 := Lib.hid q4
  clear hbW4 hcW4 hfW4 q4
  go_wp2_with (go_at_call 31; refine (first_list [_, _] _ (by simp)).mono ?_; rintro e w' ⟨rfl, rfl⟩)
  have HQ5 := Lib.hid (HQ4.out.alloc (.cells #[.int .i64 (unl true 37), .int .i64 (unl true 8)] 26))
  clear x1 y1 s1a s1b s1 v1 r1 x2 y2 s2a s2b s2 v2 r2 x3 y3 s3a s3b s3 v3 x4 y4 s4a s4b s4 v4
  go_loopw [11] (fun x wr => ∃ (k : Nat) (X : ByteArray) (A : Option Addr) (c : Nat), k ≤ m ∧ x = .string X ∧ bl X = (((bl s).drop (a + 1)).take (2 * m)).drop (2 * k) ∧ VS w R 3 z s ((a + 1 + m * 2 : Nat) : Int) #[.int .i64 0, .string ⟨#[]⟩, .slice A k c] wr ∧
      wr.ownsRow (w.heap.size + 3) 3 1 (.slice A k c) k ((listN ((bl s).drop (a + 1)) k).map (.int .i64))) (fun x _ => match x with | .string X => X.size | _ => 0)
  case atStart => exact ⟨0, _, none, 0, Nat.zero_le _, rfl, by rw [HX0.out, Nat.mul_zero]; rfl, HQ5.out, World.ownsRow_nil _ _ _ _⟩
  case round =>
    obtain ⟨k, X, A, c, hk, rfl, hX, hq, hown⟩ := hrel
    have hXs : X.size = 2 * (m - k) := by rw [← bl_length, hX, List.length_drop, List.length_take, List.length_drop, bl_length]; omega
    have HQ := Lib.hid hq
    have HOWN := Lib.hid hown
    by_cases hlt : k < m
    · have hXe : X.toList.isEmpty = false := by
        cases h : X.toList.isEmpty with
        | false => rfl
        | true => rw [tl_empty] at h; rw [h] at hXs; have h0 : (⟨#[]⟩ : ByteArray).size = 0 := rfl; omega
      obtain ⟨x, hx⟩ : ∃ x, x = num (((bl s).drop (a + 1 + 2 * k)).take 2) := ⟨_, rfl⟩
      have hX2 : bl (X.extract 0 2) = ((bl s).drop (a + 1 + 2 * k)).take 2 := by
        rw [bl_extract, List.drop_zero, hX, show ((bl s).drop (a + 1 + 2 * k)) = ((bl s).drop (a + 1)).drop (2 * k) from by rw [List.drop_drop], List.drop_take, List.take_take, Nat.min_eq_left (by omega)]
      have hN2 : ∀ W, Calls Tryd.prog 57 #[.string (X.extract 0 2)] W fun e w' => e = .returned (.int .i64 x) ∧ W = w' := fun W => by
        have := number_any (X.extract 0 2) W (by rw [ByteArray.size_extract]; omega)
        rw [hX2, ← hx] at this
        exact this
      have hls := listN_succ ((bl s).drop (a + 1)) k
      rw [List.drop_drop, ← hx] at hls
      have hXn : bl (X.extract 2 X.size) = (((bl s).drop (a + 1)).take (2 * m)).drop (2 * (k + 1)) := by
        rw [bl_extract, ← bl_length, List.take_length, hX, List.drop_drop]; congr 1
      have hX3 : (2 : Int) ≤ X.size := by omega
      have hXn2 : (X.extract 2 X.size).size = X.size - 2 := by rw [ByteArray.size_extract]; omega
      obtain ⟨x5, y5, ⟨s5a, s5b, s5⟩, v5⟩ := hq.facts
      have c2 : wr.cell? ⟨w.heap.size + 2, 2, none⟩ = some (.slice A k c) := v5 2
      have HN2 := Lib.hid hN2
      have HLS := Lib.hid hls
      have HXN := Lib.hid hXn
      have HXN2 := Lib.hid hXn2
      clear hx hX2 hN2 hls hXn hX hq hown x5 y5 s5a s5b v5 hXs hXn2
      go_wp2
      (refine wp_region_flow [false, false, false, false, false, false, true] [⟨6, [], OneI wr.heap.size x, false⟩] (by kernel_rfl) (by kernel_rfl) (by kernel_rfl) (by kernel_rfl) ?_; simp only [pick, List.length_cons, List.length_nil, List.drop_succ_cons, List.drop_zero, Nat.zero_add, Nat.reduceAdd]; apply Exists.intro; refine ⟨fun X hX => ?_, ?_⟩; (focus (obtain ⟨hcX, hfX⟩ := bcell hX; have hgX := regcell hX; have hsX := hX.size; (try simp only [World.size_alloc] at hsX); (repeat (go_big_quiet_step ((first | (go_at_call 57; (with_reducible exact Calls.reg_pure (HN2.out _))))))); exact wpQuiet_nil rfl)); simp only [wpND, told, toldAll, List.contains_cons, List.contains_nil, List.mem_cons, List.not_mem_nil, forall_eq_or_imp, false_implies, implies_true, and_true, Nat.reduceBEq, BEq.rfl, beq_self_eq_true, Bool.or_false, Bool.false_or, Bool.true_or, Bool.or_true, Bool.false_eq_true, if_true, if_false, true_implies, dstAt, List.getElem?_toArray, List.getElem?_cons_succ, List.getElem?_cons_zero, Option.some.injEq, forall_eq', Option.bind_some, Act.put, List.setIfInBounds_toArray, List.set_cons_succ, List.set_cons_zero])
      refine ⟨OneI.stable, fun Y hY => ?_, fun v1 Y hY hf => ?_⟩
      · exact leaves_alloc (v := .slice (some ⟨Y.heap.size, 0, none⟩) 1 1) (obj := .cells #[.int .i64 x] 3) (by kernel_rfl) ⟨Y.heap.size, rfl, hY.size, heap_alloc_new _ _⟩
      · obtain ⟨b3, rfl, hb3, hx3⟩ := hf
        have hmv := ownsRow_below HOWN.out hY
        have hYs := hY.size
        have hqY := HQ.out.below hY
        refine wpList_append_rd Y rfl (.tmp 69) (.tmp 74) 45 rfl (w.heap.size + 3) 3 i0 _ 1 8 Tryd.underlying45 hi hz0 hz1 hz2 rfl (by decide) (.slice A k c) k _ rfl hmv Y.heap.size (some ⟨b3, 0, none⟩) 1 1 [.int .i64 x] rfl rfl (Rd.of_block hx3) (by intro u hu; simp at hu; subst hu; rfl) (by unfold maxLen; omega) (by omega) (by omega) ?_
        intro v' w1 hown1 hgrow hown hbel
        obtain ⟨A', c', rfl, _⟩ := ownsRow_form hown1
        have hq1 := hqY.grown HRlt.out hgrow (fun g hg => (hmv.lt g hg).1)
        have hown2 : w1.ownsRow (w.heap.size + 3) 3 1 (.slice A' (k + 1) c') (k + 1) ((listN ((bl s).drop (a + 1)) (k + 1)).map (.int .i64)) := by rw [HLS.out, List.map_append]; exact hown1
        have HQ1 := Lib.hid hq1
        have HOWN2 := Lib.hid hown2
        clear hq1 hown2 hown1 hgrow hown hbel hmv hqY
        go_wp2_with (refine wpList_store_fieldG rfl 45 (.tmp 76) (.tmp 75) rfl rfl (w.heap.size + 2) 2 (.slice A' (k + 1) c') rfl rfl rfl (by kernel_rfl) 47 _ HQ1.out.v (by show 2 < 3; omega) ?_; intro W2 hg2 hv2 hk2; have HQ2 := Lib.hid (HQ1.out.setv HRlt.out hg2 hv2); have HOWN3 := Lib.hid (ownsRow_box HOWN2.out (by omega) hk2); clear hg2 hv2 hk2)
        go_roundw
        case rel => exact ⟨k + 1, _, A', c', by omega, rfl, HXN.out, HQ2.out, HOWN3.out⟩
        case measure =>
          show (X.extract 2 X.size).size < X.size
          have := HXN2.out; omega
    · obtain rfl : k = m := by omega
      have hXe : X = ⟨#[]⟩ := bl_inj (List.length_eq_zero_iff.1 (by rw [bl_length]; omega))
      subst hXe
      obtain ⟨x5, y5, ⟨s5a, s5b, s5⟩, v5⟩ := hq.facts
      have hll := listN_length ((bl s).drop (a + 1)) k
      have HLL := Lib.hid hll
      clear hX hXs hq hown hll
      go_wp2_with (refine wpList_store_newG rfl 47 (.tmp 4) (.tmp 84) rfl rfl (w.heap.size + 1) #[.int .i64 0, .string ⟨#[]⟩, .slice A k c] rfl rfl 47 _ HQ.out.o (by kernel_rfl) (by kernel_rfl) (by kernel_rfl) ?_; intro W9 hg9 hr9 hk9; have HOWN9 := Lib.hid (ownsRow_box HOWN.out (by omega) hk9); clear hk9)
      refine bodyPost_ret (results_cell_tmp Tryd.results33 _ W9 (w.heap.size + 1) 47 _ _ _ rfl rfl hr9 Tryd.underlying47 rfl (by kernel_rfl)) rfl ?_
      refine ⟨⟨0, ⟨#[]⟩, A, c, listN ((bl s).drop (a + 1)) k⟩, ?_, ?_, ?_, fun _ => ?_, HQ.out.grw.own hg9 (by omega)⟩
      · rw [HD.out]
        show _ = Ending.returned (.tuple #[.agg #[.int .i64 0, .string ⟨#[]⟩, .slice A (listN ((bl s).drop (a + 1)) k).length c], _])
        rw [HLL.out]
        rfl
      · rw [HD.out]; rfl
      · show W9.ownsRow w.heap.size _ 1 (.slice A (listN ((bl s).drop (a + 1)) k).length c) (listN ((bl s).drop (a + 1)) k).length _
        rw [HLL.out]
        exact ownsRow_mono HOWN9.out (by omega)
      · rw [HD.out]
        show RdrAt W9 R s ((a + (1 + 2 * k) : Nat) : Int)
        rw [show a + (1 + 2 * k) = a + 1 + k * 2 by omega]
        exact HQ.out.r.grw hg9 (by intro e; have := HRlt.out; omega)
end Go.Proofs.YtiomfkgbaemmkaaDoor
