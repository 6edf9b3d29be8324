/-
  Chapter 21: the operation with some bytes.
-/
import Derived.Test.YtgmipogidmcilaaDoorOpOf2
namespace Go.Proofs.YtgmipogidmcilaaDoor
set_option linter.unusedVariables false
set_option linter.unusedSimpArgs false
open Go.RowKit Go.Sort

theorem cut_lo (s : ByteArray) (B N : Nat) (h : B + N ≤ s.size) : (s.extract B s.size).extract 0 N = s.extract B (B + N) := by
  apply bl_inj
  rw [bl_extract, bl_extract, bl_extract]
  apply List.ext_getElem?
  intro i
  rw [List.getElem?_drop, List.getElem?_take, List.getElem?_drop, List.getElem?_take, List.getElem?_drop, List.getElem?_take, Nat.zero_add]
  by_cases h1 : i < N
  · rw [if_pos h1, if_pos (by omega), if_pos (by omega)]
  · rw [if_neg h1, if_neg (by omega)]
theorem cut_hi (s : ByteArray) (B N : Nat) (h : B + N ≤ s.size) : (s.extract B s.size).extract N (s.extract B s.size).size = s.extract (B + N) s.size := by
  apply bl_inj
  rw [bl_extract, bl_extract, bl_extract, ByteArray.size_extract]
  apply List.ext_getElem?
  intro i
  rw [List.getElem?_drop, List.getElem?_take, List.getElem?_drop, List.getElem?_take, List.getElem?_drop, List.getElem?_take]
  by_cases h1 : B + N + i < s.size
  · rw [if_pos (by omega), if_pos (by omega), if_pos (by omega), Nat.add_assoc]
  · rw [if_neg (by omega), if_neg (by omega)]
theorem num_lo (s : ByteArray) (c : Nat) : num (bl (s.extract 0 c)) = numAt s 0 c := by rw [bl_extract]; rfl
theorem num_cut (s : ByteArray) (i c : Nat) : num (bl ((s.extract i s.size).extract 0 c)) = numAt s i c := by rw [bl_cut]; rfl
theorem num_mid (s : ByteArray) (i j c : Nat) (h : j = i + c) : num (bl (s.extract i j)) = numAt s i c := by
  subst h; rw [bl_extract]; unfold numAt
  congr 1
  apply List.ext_getElem?
  intro k
  rw [List.getElem?_drop, List.getElem?_take, List.getElem?_take, List.getElem?_drop]
  by_cases h : k < c
  · rw [if_pos h, if_pos (by omega)]
  · rw [if_neg h, if_neg (by omega)]
theorem Box.other {w : World} {b g : Nat} {cs : Array Value} {T : TypeId} (h : Box w b cs T) (j : Nat) (v : Value) (hne : b ≠ g) : Box (w.setCell ⟨g, j, none⟩ v) b cs T := (heap_setCell_other w _ b v hne).trans h
theorem number_cut (s : ByteArray) (i c : Nat) (hc : c ≤ 6) (W : World) : Calls Tryd.prog 77 #[.string ((s.extract i s.size).extract 0 c)] W fun e w' => e = .returned (.int .i64 (numAt s i c)) ∧ Below W.heap.size W w' := by
  rw [← num_cut]
  exact logop_number_any _ W (by rw [ByteArray.size_extract]; omega)
theorem number_mid (s : ByteArray) (i j c : Nat) (h : j = i + c) (hc : c ≤ 6) (W : World) : Calls Tryd.prog 77 #[.string (s.extract i j)] W fun e w' => e = .returned (.int .i64 (numAt s i c)) ∧ Below W.heap.size W w' := by
  rw [← num_mid s i j c h]
  exact logop_number_any _ W (by rw [ByteArray.size_extract]; omega)

set_option maxRecDepth 100000 in
set_option maxHeartbeats 4000000 in
theorem OpOf_any (s : ByteArray) (w : World) (hs : s.size ≤ maxLen) :
    Calls Tryd.prog 45 #[.string s] w fun r w' => r = .returned (.tuple #[opV (ofR s), .int .i64 (ofE s)]) ∧ Below w.heap.size w w' := by
  have hbel0 : Below w.heap.size w (w.alloc (.cells #[.int .i64 0, .int .i64 0, .int .i64 0, .int .i64 0, .string ⟨#[]⟩, .string ⟨#[]⟩] 27)) := bel_alloc (Below.refl _ _) _
  have hblk0 : Box (w.alloc (.cells #[.int .i64 0, .int .i64 0, .int .i64 0, .int .i64 0, .string ⟨#[]⟩, .string ⟨#[]⟩] 27)) w.heap.size #[.int .i64 0, .int .i64 0, .int .i64 0, .int .i64 0, .string ⟨#[]⟩, .string ⟨#[]⟩] 27 := Box.new w _ _
  have hsI := hs
  unfold maxLen at hsI
  by_cases h1 : 1035 < s.size
  · have e1 : ofE s = 8 := by unfold ofE; rw [if_pos h1]
    rw [ofR_bad e1 (by decide), e1]
    have d1 : decide ((s.size : Int) ≤ 1035) = false := by rw [decide_eq_false_iff_not]; omega
    have d2 : decide ((s.size : Int) ≥ 11) = true := by rw [decide_eq_true_eq]; omega
    have h1' : (1035 : Int) < s.size := by omega
    have h2' : (11 : Int) ≤ s.size := by omega
    have hf : firstE [unl false 8, unl true 14] = 8 := rfl
    clear e1 h1
    go_enter Tryd.func45, Tryd.ntmps45
    go_upto_region 1 with (fail)
    obtain ⟨W0, hW0⟩ : ∃ W0, W0 = w.alloc (.cells #[.int .i64 0, .int .i64 0, .int .i64 0, .int .i64 0, .string ⟨#[]⟩, .string ⟨#[]⟩] 27) := ⟨_, rfl⟩
    rw [← hW0] at hbel0 hblk0
    rw [← hW0]
    clear hW0
    go_wp2_with (first | (go_at_call 54; refine (logop_unless_any _ _ _).mono ?_; rintro e w' ⟨rfl, rfl⟩) | (go_at_call 52; refine (logop_first_list [_, _] W0 (by simp)).mono ?_; rintro e w' ⟨rfl, rfl⟩; have hbw1 := bel_alloc hbel0 (.cells #[.int .i64 8, .int .i64 0] 28); have HB1 := Lib.hid (hblk0.old (.cells #[.int .i64 8, .int .i64 0] 28))) | (refine wpList_store_new rfl 27 (.tmp 2) (.tmp 25) rfl rfl w.heap.size #[.int .i64 0, .int .i64 0, .int .i64 0, .int .i64 0, .string ⟨#[]⟩, .string ⟨#[]⟩] rfl rfl w hbw1 (Nat.le_refl _) 27 _ HB1.out (by kernel_rfl) (by kernel_rfl) (by kernel_rfl) ?_; intro W3 hb3 hbox3 _))
    exact bodyPost_ret (results_cell_tmp Tryd.results45 _ W3 w.heap.size 27 _ _ _ rfl rfl hbox3 Tryd.underlying27 rfl (by kernel_rfl)) rfl ⟨rfl, hb3⟩
  · have h1' : (s.size : Int) ≤ 1035 := by omega
    have d1 : decide ((s.size : Int) ≤ 1035) = true := by rw [decide_eq_true_eq]; omega
    by_cases h2 : s.size < 11
    · have e1 : ofE s = 14 := by unfold ofE; rw [if_neg h1, if_pos h2]
      rw [ofR_bad e1 (by decide), e1]
      have d2 : decide ((s.size : Int) ≥ 11) = false := by rw [decide_eq_false_iff_not]; omega
      have h2' : (s.size : Int) < 11 := by omega
      have hf : firstE [unl true 8, unl false 14] = 14 := rfl
      clear e1 h1 h2
      go_enter Tryd.func45, Tryd.ntmps45
      go_upto_region 1 with (fail)
      obtain ⟨W0, hW0⟩ : ∃ W0, W0 = w.alloc (.cells #[.int .i64 0, .int .i64 0, .int .i64 0, .int .i64 0, .string ⟨#[]⟩, .string ⟨#[]⟩] 27) := ⟨_, rfl⟩
      rw [← hW0] at hbel0 hblk0
      rw [← hW0]
      clear hW0
      go_wp2_with (first | (go_at_call 54; refine (logop_unless_any _ _ _).mono ?_; rintro e w' ⟨rfl, rfl⟩) | (go_at_call 52; refine (logop_first_list [_, _] W0 (by simp)).mono ?_; rintro e w' ⟨rfl, rfl⟩; have hbw1 := bel_alloc hbel0 (.cells #[.int .i64 0, .int .i64 14] 28); have HB1 := Lib.hid (hblk0.old (.cells #[.int .i64 0, .int .i64 14] 28))) | (refine wpList_store_new rfl 27 (.tmp 2) (.tmp 25) rfl rfl w.heap.size #[.int .i64 0, .int .i64 0, .int .i64 0, .int .i64 0, .string ⟨#[]⟩, .string ⟨#[]⟩] rfl rfl w hbw1 (Nat.le_refl _) 27 _ HB1.out (by kernel_rfl) (by kernel_rfl) (by kernel_rfl) ?_; intro W3 hb3 hbox3 _))
      exact bodyPost_ret (results_cell_tmp Tryd.results45 _ W3 w.heap.size 27 _ _ _ rfl rfl hbox3 Tryd.underlying27 rfl (by kernel_rfl)) rfl ⟨rfl, hb3⟩
    · have d2 : decide ((s.size : Int) ≥ 11) = true := by rw [decide_eq_true_eq]; omega
      have h2' : (11 : Int) ≤ s.size := by omega
      have hf : firstE [unl true 8, unl true 14] = 0 := rfl
      have HN0 := Lib.hid (number_mid s 0 1 1 rfl (by omega))
      have HN1 := Lib.hid (number_cut s 1 2 (by omega))
      have HN3 := Lib.hid (number_cut s 3 2 (by omega))
      have HN5 := Lib.hid (number_cut s 5 2 (by omega))
      obtain ⟨b7, c7⟩ := numAt_bd2 s 7
      obtain ⟨b9, c9⟩ := numAt_bd2 s 9
      obtain ⟨N, hN⟩ := Int.eq_ofNat_of_zero_le b7
      obtain ⟨M, hM⟩ := Int.eq_ofNat_of_zero_le b9
      have hn7 := number_cut s 7 2 (by omega)
      have hn9 := number_cut s 9 2 (by omega)
      rw [hN] at hn7 c7
      rw [hM] at hn9 c9
      have HN7 := Lib.hid hn7
      have HN9 := Lib.hid hn9
      obtain ⟨R, hRv⟩ : ∃ R, R = ofR s := ⟨_, rfl⟩
      obtain ⟨E, hEv⟩ : ∃ E, E = ofE s := ⟨_, rfl⟩
      rw [← hRv, ← hEv]
      have HRv := Lib.hid hRv
      have HEv := Lib.hid hEv
      clear hRv hEv
      have ev : ofV s = ⟨numAt s 0 1, numAt s 1 2, numAt s 3 2, numAt s 5 2, s.extract 11 (11 + N), s.extract (11 + N) s.size⟩ := by unfold ofV; rw [hN]; rfl
      have ee : ofE s = if (s.size : Int) < 11 + (N : Int) + M then 14 else if 11 + (N : Int) + M < (s.size : Int) then 3 else opE (ofV s) := by unfold ofE; rw [if_neg h1, if_neg h2, hN, hM]
      have w1 : IntKind.i64.wrap ((N : Int) + (M : Int)) = (N : Int) + (M : Int) := IntWalk.i64_in _ (by omega)
      have w3 : 0 ≤ (N : Int) + (M : Int) := by omega
      have EV := Lib.hid ev
      have EE := Lib.hid ee
      have HW1 := Lib.hid w1
      clear hn7 hn9 b7 b9 c7 c9 hN hM ev ee h1 h2 w1
      go_enter Tryd.func45, Tryd.ntmps45
      go_upto_region 1 with (fail)
      obtain ⟨W0, hW0⟩ : ∃ W0, W0 = w.alloc (.cells #[.int .i64 0, .int .i64 0, .int .i64 0, .int .i64 0, .string ⟨#[]⟩, .string ⟨#[]⟩] 27) := ⟨_, rfl⟩
      rw [← hW0] at hbel0 hblk0
      rw [← hW0]
      clear hW0
      go_wp2_with (first | (go_at_call 54; refine (logop_unless_any _ _ _).mono ?_; rintro e w' ⟨rfl, rfl⟩) | (go_at_call 52; refine (logop_first_list [_, _] W0 (by simp)).mono ?_; rintro e w' ⟨rfl, rfl⟩; have hbw1 := bel_alloc hbel0 (.cells #[.int .i64 0, .int .i64 0] 28); have HB1 := Lib.hid (hblk0.old (.cells #[.int .i64 0, .int .i64 0] 28))) | (go_at_call 77; (with_reducible refine (HN0.out _).mono ?_); rintro e W1 ⟨rfl, hbW1⟩; have hbw2 := bel_trans hbw1 hbW1; have hr1 := HB1.out.below hbW1; have hlt1 := hr1.lt; have HR1 := Lib.hid hr1; clear hr1; have HNN := Lib.hid (Box.new W1 #[.int .i64 0, .int .i64 0, .int .i64 0, .int .i64 0, .string ⟨#[]⟩, .string ⟨#[]⟩] 27); have hba1 := bel_alloc hbw2 (.cells #[.int .i64 0, .int .i64 0, .int .i64 0, .int .i64 0, .string ⟨#[]⟩, .string ⟨#[]⟩] 27)) | (refine wpList_store_new rfl 27 (.tmp 5) (.tmp 30) rfl rfl W1.heap.size #[.int .i64 (numAt s 0 1), .int .i64 0, .int .i64 0, .int .i64 0, .string ⟨#[]⟩, .string ⟨#[]⟩] rfl rfl w hba1 (Nat.le_of_lt hlt1) 27 _ HNN.out (by kernel_rfl) (by kernel_rfl) (by kernel_rfl) ?_; intro W2 hb2 hbox2 hk2; have hr2 := hk2 _ _ _ (Nat.ne_of_lt hlt1) (HR1.out.old _); have hlt2 := hbox2.lt; have HBOX2 := Lib.hid hbox2; have HR2 := Lib.hid hr2; clear hbox2 hr2 hk2))
      clear d1 d2 hf
      go_loopw [35] (fun i wr => ∃ k : Nat, k ≤ 5 ∧ i = .int .i64 k ∧ Below w.heap.size w wr ∧ Box wr w.heap.size #[.int .i64 0, .int .i64 0, .int .i64 0, .int .i64 0, .string ⟨#[]⟩, .string ⟨#[]⟩] 27 ∧ Box wr W1.heap.size #[.int .i64 (numAt s 0 1), .int .i64 (if 0 < k then numAt s 1 2 else 0), .int .i64 (if 1 < k then numAt s 3 2 else 0), .int .i64 (if 2 < k then numAt s 5 2 else 0), .string ⟨#[]⟩, .string ⟨#[]⟩] 27 ∧ Box wr W2.heap.size #[.int .i64 (if 3 < k then (N : Int) else 0)] 3 ∧ Box wr (W2.heap.size + 1) #[.int .i64 (if 4 < k then (M : Int) else 0)] 3) (fun i _ => 5 - (intOf i).toNat)
      case atStart => exact ⟨0, by omega, rfl, bel_alloc (bel_alloc hb2 _) _, (HR2.out.old _).old _, (HBOX2.out.old _).old _, (Box.new W2 _ _).old _, by simpa using Box.new (W2.alloc (.cells #[.int .i64 0] 3)) #[.int .i64 0] 3⟩
      case round =>
        obtain ⟨k, hk, rfl, hb, hR, hB5, hB6, hB7⟩ := hrel
        have : k = 0 ∨ k = 1 ∨ k = 2 ∨ k = 3 ∨ k = 4 ∨ k = 5 := by omega
        rcases this with rfl | rfl | rfl | rfl | rfl | rfl
        · have k5 : Box wr W1.heap.size #[.int .i64 (numAt s 0 1), .int .i64 (0), .int .i64 (0), .int .i64 (0), .string ⟨#[]⟩, .string ⟨#[]⟩] 27 := hB5
          have k6 : Box wr W2.heap.size #[.int .i64 (0)] 3 := hB6
          have k7 : Box wr (W2.heap.size + 1) #[.int .i64 (0)] 3 := hB7
          have K5 := Lib.hid k5
          have K6 := Lib.hid k6
          have K7 := Lib.hid k7
          have KR := Lib.hid hR
          have hix : ∀ W, (Instr.index 112 (.agg #[.pointer (some ⟨W1.heap.size, 1, none⟩), .pointer (some ⟨W1.heap.size, 2, none⟩), .pointer (some ⟨W1.heap.size, 3, none⟩), .pointer (some ⟨W2.heap.size, 0, none⟩), .pointer (some ⟨W2.heap.size + 1, 0, none⟩)]) (.int .i64 0)).run Tryd.prog W = .ok (.pointer (some ⟨W1.heap.size, 1, none⟩)) W := fun W => by kernel_rfl
          clear k5 k6 k7 hB5 hB6 hB7 hR
          go_wp2_with (first | (go_at_call 77; (with_reducible refine (HN1.out _).mono ?_); rintro e W3 ⟨rfl, hbW3⟩; have hbw3 := bel_trans hb hbW3; have H5 := Lib.hid (K5.out.below hbW3); have H6 := Lib.hid (K6.out.below hbW3); have H7 := Lib.hid (K7.out.below hbW3); have HR3 := Lib.hid (KR.out.below hbW3)) | (refine wpList_store_field rfl 3 (.tmp 47) (.tmp 46) rfl rfl (W1.heap.size) 1 (.int .i64 (numAt s 1 2)) rfl rfl rfl (by kernel_rfl) w hbw3 (by omega) 27 _ H5.out (by simp) ?_; intro W4 hb4 hbox4 hk4))
          go_roundw
          case rel => exact ⟨1, by omega, by go_num, hb4, hk4 _ _ _ (by omega) HR3.out, hbox4, hk4 _ _ _ (by omega) H6.out, hk4 _ _ _ (by omega) H7.out⟩
          case measure => simp [intOf]
        · have k5 : Box wr W1.heap.size #[.int .i64 (numAt s 0 1), .int .i64 (numAt s 1 2), .int .i64 (0), .int .i64 (0), .string ⟨#[]⟩, .string ⟨#[]⟩] 27 := hB5
          have k6 : Box wr W2.heap.size #[.int .i64 (0)] 3 := hB6
          have k7 : Box wr (W2.heap.size + 1) #[.int .i64 (0)] 3 := hB7
          have K5 := Lib.hid k5
          have K6 := Lib.hid k6
          have K7 := Lib.hid k7
          have KR := Lib.hid hR
          have hix : ∀ W, (Instr.index 112 (.agg #[.pointer (some ⟨W1.heap.size, 1, none⟩), .pointer (some ⟨W1.heap.size, 2, none⟩), .pointer (some ⟨W1.heap.size, 3, none⟩), .pointer (some ⟨W2.heap.size, 0, none⟩), .pointer (some ⟨W2.heap.size + 1, 0, none⟩)]) (.int .i64 1)).run Tryd.prog W = .ok (.pointer (some ⟨W1.heap.size, 2, none⟩)) W := fun W => by kernel_rfl
          clear k5 k6 k7 hB5 hB6 hB7 hR
          go_wp2_with (first | (go_at_call 77; (with_reducible refine (HN3.out _).mono ?_); rintro e W3 ⟨rfl, hbW3⟩; have hbw3 := bel_trans hb hbW3; have H5 := Lib.hid (K5.out.below hbW3); have H6 := Lib.hid (K6.out.below hbW3); have H7 := Lib.hid (K7.out.below hbW3); have HR3 := Lib.hid (KR.out.below hbW3)) | (refine wpList_store_field rfl 3 (.tmp 47) (.tmp 46) rfl rfl (W1.heap.size) 2 (.int .i64 (numAt s 3 2)) rfl rfl rfl (by kernel_rfl) w hbw3 (by omega) 27 _ H5.out (by simp) ?_; intro W4 hb4 hbox4 hk4))
          go_roundw
          case rel => exact ⟨2, by omega, by go_num, hb4, hk4 _ _ _ (by omega) HR3.out, hbox4, hk4 _ _ _ (by omega) H6.out, hk4 _ _ _ (by omega) H7.out⟩
          case measure => simp [intOf]
        · have k5 : Box wr W1.heap.size #[.int .i64 (numAt s 0 1), .int .i64 (numAt s 1 2), .int .i64 (numAt s 3 2), .int .i64 (0), .string ⟨#[]⟩, .string ⟨#[]⟩] 27 := hB5
          have k6 : Box wr W2.heap.size #[.int .i64 (0)] 3 := hB6
          have k7 : Box wr (W2.heap.size + 1) #[.int .i64 (0)] 3 := hB7
          have K5 := Lib.hid k5
          have K6 := Lib.hid k6
          have K7 := Lib.hid k7
          have KR := Lib.hid hR
          have hix : ∀ W, (Instr.index 112 (.agg #[.pointer (some ⟨W1.heap.size, 1, none⟩), .pointer (some ⟨W1.heap.size, 2, none⟩), .pointer (some ⟨W1.heap.size, 3, none⟩), .pointer (some ⟨W2.heap.size, 0, none⟩), .pointer (some ⟨W2.heap.size + 1, 0, none⟩)]) (.int .i64 2)).run Tryd.prog W = .ok (.pointer (some ⟨W1.heap.size, 3, none⟩)) W := fun W => by kernel_rfl
          clear k5 k6 k7 hB5 hB6 hB7 hR
          go_wp2_with (first | (go_at_call 77; (with_reducible refine (HN5.out _).mono ?_); rintro e W3 ⟨rfl, hbW3⟩; have hbw3 := bel_trans hb hbW3; have H5 := Lib.hid (K5.out.below hbW3); have H6 := Lib.hid (K6.out.below hbW3); have H7 := Lib.hid (K7.out.below hbW3); have HR3 := Lib.hid (KR.out.below hbW3)) | (refine wpList_store_field rfl 3 (.tmp 47) (.tmp 46) rfl rfl (W1.heap.size) 3 (.int .i64 (numAt s 5 2)) rfl rfl rfl (by kernel_rfl) w hbw3 (by omega) 27 _ H5.out (by simp) ?_; intro W4 hb4 hbox4 hk4))
          go_roundw
          case rel => exact ⟨3, by omega, by go_num, hb4, hk4 _ _ _ (by omega) HR3.out, hbox4, hk4 _ _ _ (by omega) H6.out, hk4 _ _ _ (by omega) H7.out⟩
          case measure => simp [intOf]
        · have k5 : Box wr W1.heap.size #[.int .i64 (numAt s 0 1), .int .i64 (numAt s 1 2), .int .i64 (numAt s 3 2), .int .i64 (numAt s 5 2), .string ⟨#[]⟩, .string ⟨#[]⟩] 27 := hB5
          have k6 : Box wr W2.heap.size #[.int .i64 (0)] 3 := hB6
          have k7 : Box wr (W2.heap.size + 1) #[.int .i64 (0)] 3 := hB7
          have K5 := Lib.hid k5
          have K6 := Lib.hid k6
          have K7 := Lib.hid k7
          have KR := Lib.hid hR
          have hix : ∀ W, (Instr.index 112 (.agg #[.pointer (some ⟨W1.heap.size, 1, none⟩), .pointer (some ⟨W1.heap.size, 2, none⟩), .pointer (some ⟨W1.heap.size, 3, none⟩), .pointer (some ⟨W2.heap.size, 0, none⟩), .pointer (some ⟨W2.heap.size + 1, 0, none⟩)]) (.int .i64 3)).run Tryd.prog W = .ok (.pointer (some ⟨W2.heap.size, 0, none⟩)) W := fun W => by kernel_rfl
          clear k5 k6 k7 hB5 hB6 hB7 hR
          go_wp2_with (first | (go_at_call 77; (with_reducible refine (HN7.out _).mono ?_); rintro e W3 ⟨rfl, hbW3⟩; have hbw3 := bel_trans hb hbW3; have H5 := Lib.hid (K5.out.below hbW3); have H6 := Lib.hid (K6.out.below hbW3); have H7 := Lib.hid (K7.out.below hbW3); have HR3 := Lib.hid (KR.out.below hbW3)) | (refine wpList_store_field rfl 3 (.tmp 47) (.tmp 46) rfl rfl (W2.heap.size) 0 (.int .i64 (N)) rfl rfl rfl (by kernel_rfl) w hbw3 (by omega) 3 _ H6.out (by simp) ?_; intro W4 hb4 hbox4 hk4))
          go_roundw
          case rel => exact ⟨4, by omega, by go_num, hb4, hk4 _ _ _ (by omega) HR3.out, hk4 _ _ _ (by omega) H5.out, hbox4, hk4 _ _ _ (by omega) H7.out⟩
          case measure => simp [intOf]
        · have k5 : Box wr W1.heap.size #[.int .i64 (numAt s 0 1), .int .i64 (numAt s 1 2), .int .i64 (numAt s 3 2), .int .i64 (numAt s 5 2), .string ⟨#[]⟩, .string ⟨#[]⟩] 27 := hB5
          have k6 : Box wr W2.heap.size #[.int .i64 (N)] 3 := hB6
          have k7 : Box wr (W2.heap.size + 1) #[.int .i64 (0)] 3 := hB7
          have K5 := Lib.hid k5
          have K6 := Lib.hid k6
          have K7 := Lib.hid k7
          have KR := Lib.hid hR
          have hix : ∀ W, (Instr.index 112 (.agg #[.pointer (some ⟨W1.heap.size, 1, none⟩), .pointer (some ⟨W1.heap.size, 2, none⟩), .pointer (some ⟨W1.heap.size, 3, none⟩), .pointer (some ⟨W2.heap.size, 0, none⟩), .pointer (some ⟨W2.heap.size + 1, 0, none⟩)]) (.int .i64 4)).run Tryd.prog W = .ok (.pointer (some ⟨W2.heap.size + 1, 0, none⟩)) W := fun W => by kernel_rfl
          clear k5 k6 k7 hB5 hB6 hB7 hR
          go_wp2_with (first | (go_at_call 77; (with_reducible refine (HN9.out _).mono ?_); rintro e W3 ⟨rfl, hbW3⟩; have hbw3 := bel_trans hb hbW3; have H5 := Lib.hid (K5.out.below hbW3); have H6 := Lib.hid (K6.out.below hbW3); have H7 := Lib.hid (K7.out.below hbW3); have HR3 := Lib.hid (KR.out.below hbW3)) | (refine wpList_store_field rfl 3 (.tmp 47) (.tmp 46) rfl rfl (W2.heap.size + 1) 0 (.int .i64 (M)) rfl rfl rfl (by kernel_rfl) w hbw3 (by omega) 3 _ H7.out (by simp) ?_; intro W4 hb4 hbox4 hk4))
          go_roundw
          case rel => exact ⟨5, by omega, by go_num, hb4, hk4 _ _ _ (by omega) HR3.out, hk4 _ _ _ (by omega) H5.out, hk4 _ _ _ (by omega) H6.out, hbox4⟩
          case measure => simp [intOf]
        · have k5 : Box wr W1.heap.size #[.int .i64 (numAt s 0 1), .int .i64 (numAt s 1 2), .int .i64 (numAt s 3 2), .int .i64 (numAt s 5 2), .string ⟨#[]⟩, .string ⟨#[]⟩] 27 := hB5
          have k6 : Box wr W2.heap.size #[.int .i64 N] 3 := hB6
          have k7 : Box wr (W2.heap.size + 1) #[.int .i64 M] 3 := hB7
          have hx6 := k6.cells
          have hx7 := k7.cells
          have hl6 := k6.lt
          have hl7 := k7.lt
          have K5 := Lib.hid k5
          have K6 := Lib.hid k6
          have K7 := Lib.hid k7
          have KR := Lib.hid hR
          clear k5 k6 k7 hB5 hB6 hB7 hR
          go_upto_region 12 with (fail)
          obtain ⟨rs, hrs⟩ : ∃ rs, rs = s.extract 11 s.size := ⟨_, rfl⟩
          rw [← hrs]
          have hz1 : (rs.size : Int) = s.size - 11 := by rw [hrs, ByteArray.size_extract]; omega
          have w1 := HW1.out
          have HRS := Lib.hid hrs
          by_cases h3 : (s.size : Int) < 11 + (N : Int) + M
          · have e1 : ofE s = 14 := by rw [EE.out, if_pos h3]
            have E1 := Lib.hid e1
            have d3 : decide ((rs.size : Int) ≥ (N : Int) + M) = false := by rw [decide_eq_false_iff_not]; omega
            have d3' : (rs.size : Int) < (N : Int) + M := by omega
            have d4 : (rs.size : Int) ≤ (N : Int) + M := by omega
            have hf : firstE [unl false 14, unl true 3] = 14 := rfl
            clear e1 h3 hz1 hrs
            (refine wp_region_btail 14 (by kernel_rfl) (by kernel_rfl) ?_; simp only [List.take_succ_cons, List.take_zero, List.drop_succ_cons, List.drop_zero]; (repeat (go_big_quiet_step ((first | (go_at_call 54; exact Calls.reg_pure (logop_unless_any _ _ _)))))); (with_reducible refine wpQuiet_nil ?_); intro W5 hreg; have hbW5 := below_of_reg hreg; clear hreg; obtain ⟨hcW5, hfW5⟩ := bcell hbW5)
            go_wp2_with (first | (go_at_call 52; refine (logop_first_list [_, _] W5 (by simp)).mono ?_; rintro e w' ⟨rfl, rfl⟩; have hbw5 := bel_alloc (bel_trans hb hbW5) (.cells #[.int .i64 14, .int .i64 0] 28); have HR5 := Lib.hid ((KR.out.below hbW5).old (.cells #[.int .i64 14, .int .i64 0] 28))) | (refine wpList_store_new rfl 27 (.tmp 2) (.tmp 69) rfl rfl w.heap.size #[.int .i64 0, .int .i64 0, .int .i64 0, .int .i64 0, .string ⟨#[]⟩, .string ⟨#[]⟩] rfl rfl w hbw5 (Nat.le_refl _) 27 _ HR5.out (by kernel_rfl) (by kernel_rfl) (by kernel_rfl) ?_; intro W8 hb8 hbox8 _))
            exact bodyPost_ret (results_cell_tmp Tryd.results45 _ W8 w.heap.size 27 _ _ _ rfl rfl hbox8 Tryd.underlying27 rfl (by kernel_rfl)) rfl ⟨by rw [HRv.out, HEv.out, ofR_bad E1.out (by decide), E1.out]; rfl, hb8⟩
          · by_cases h4 : 11 + (N : Int) + M < (s.size : Int)
            · have e1 : ofE s = 3 := by rw [EE.out, if_neg h3, if_pos h4]
              have E1 := Lib.hid e1
              have d3 : (N : Int) + M ≤ (rs.size : Int) := by omega
              have d4 : decide ((rs.size : Int) ≤ (N : Int) + M) = false := by rw [decide_eq_false_iff_not]; omega
              have d4' : (N : Int) + M < (rs.size : Int) := by omega
              have hf : firstE [unl true 14, unl false 3] = 3 := rfl
              clear e1 h3 h4 hz1 hrs
              (refine wp_region_btail 14 (by kernel_rfl) (by kernel_rfl) ?_; simp only [List.take_succ_cons, List.take_zero, List.drop_succ_cons, List.drop_zero]; (repeat (go_big_quiet_step ((first | (go_at_call 54; exact Calls.reg_pure (logop_unless_any _ _ _)))))); (with_reducible refine wpQuiet_nil ?_); intro W5 hreg; have hbW5 := below_of_reg hreg; clear hreg; obtain ⟨hcW5, hfW5⟩ := bcell hbW5)
              go_wp2_with (first | (go_at_call 52; refine (logop_first_list [_, _] W5 (by simp)).mono ?_; rintro e w' ⟨rfl, rfl⟩; have hbw5 := bel_alloc (bel_trans hb hbW5) (.cells #[.int .i64 0, .int .i64 3] 28); have HR5 := Lib.hid ((KR.out.below hbW5).old (.cells #[.int .i64 0, .int .i64 3] 28))) | (refine wpList_store_new rfl 27 (.tmp 2) (.tmp 69) rfl rfl w.heap.size #[.int .i64 0, .int .i64 0, .int .i64 0, .int .i64 0, .string ⟨#[]⟩, .string ⟨#[]⟩] rfl rfl w hbw5 (Nat.le_refl _) 27 _ HR5.out (by kernel_rfl) (by kernel_rfl) (by kernel_rfl) ?_; intro W8 hb8 hbox8 _))
              exact bodyPost_ret (results_cell_tmp Tryd.results45 _ W8 w.heap.size 27 _ _ _ rfl rfl hbox8 Tryd.underlying27 rfl (by kernel_rfl)) rfl ⟨by rw [HRv.out, HEv.out, ofR_bad E1.out (by decide), E1.out]; rfl, hb8⟩
            · have e0 : ofE s = opE (ofV s) := by rw [EE.out, if_neg h3, if_neg h4]
              have d3 : (N : Int) + M ≤ (rs.size : Int) := by omega
              have d4 : (rs.size : Int) ≤ (N : Int) + M := by omega
              have hf : firstE [unl true 14, unl true 3] = 0 := rfl
              have hcl := cut_lo s 11 N (by omega)
              have hch := cut_hi s 11 N (by omega)
              rw [← hrs] at hcl hch
              have hzo : (s.extract 11 (11 + N)).size ≤ 3100 := by rw [ByteArray.size_extract]; omega
              have hzn : (s.extract (11 + N) s.size).size ≤ 3100 := by rw [ByteArray.size_extract]; omega
              have hE := fun W => CheckOp_any (ofV s) W (by rw [EV.out]; exact hzo) (by rw [EV.out]; exact hzn)
              have hN1 : (N : Int) ≤ (rs.size : Int) := by omega
              obtain ⟨V, hV⟩ : ∃ V, V = ofV s := ⟨_, rfl⟩
              have ev' := hV.trans EV.out
              have q1 : numAt s 0 1 = V.k := by rw [ev']
              have q2 : numAt s 1 2 = V.a := by rw [ev']
              have q3 : numAt s 3 2 = V.e := by rw [ev']
              have q4 : numAt s 5 2 = V.c := by rw [ev']
              have q5 : rs.extract 0 N = V.o := by rw [ev', hcl]
              have q6 : rs.extract N rs.size = V.n := by rw [ev', hch]
              have k5 := K5.out
              rw [q1, q2, q3, q4] at k5
              have K5 := Lib.hid k5
              rw [← hV] at hE
              have hr : ofR s = if ofE s = 0 then V else op0 := by rw [hV]; rfl
              rw [e0, ← hV] at hr
              rw [← hV] at e0
              obtain ⟨er, her⟩ : ∃ e, e = opE V := ⟨_, rfl⟩
              rw [← her] at hE hr e0
              have HRV := Lib.hid hr
              have HEV := Lib.hid e0
              have hE' : ∀ W, Calls Tryd.prog 21 #[.agg #[.int .i64 V.k, .int .i64 V.a, .int .i64 V.e, .int .i64 V.c, .string (rs.extract 0 N), .string (rs.extract N rs.size)]] W fun r w' => r = .returned (.int .i64 er) ∧ Below W.heap.size W w' := by rw [q5, q6]; exact hE
              have HE := Lib.hid hE'
              have Q5 := Lib.hid q5
              have Q6 := Lib.hid q6
              clear hE hE' q1 q2 q3 q4 q5 q6 k5 ev' e0 hr her hV h3 h4 hz1 hrs hcl hch hzo hzn
              (refine wp_region_btail 14 (by kernel_rfl) (by kernel_rfl) ?_; simp only [List.take_succ_cons, List.take_zero, List.drop_succ_cons, List.drop_zero]; (repeat (go_big_quiet_step ((first | (go_at_call 54; exact Calls.reg_pure (logop_unless_any _ _ _)))))); (with_reducible refine wpQuiet_nil ?_); intro W5 hreg; have hbW5 := below_of_reg hreg; clear hreg; obtain ⟨hcW5, hfW5⟩ := bcell hbW5)
              go_wp2_with (first | (go_at_call 52; refine (logop_first_list [_, _] W5 (by simp)).mono ?_; rintro e w' ⟨rfl, rfl⟩; have hbw5 := bel_alloc (bel_trans hb hbW5) (.cells #[.int .i64 0, .int .i64 0] 28); have HR5 := Lib.hid ((KR.out.below hbW5).old (.cells #[.int .i64 0, .int .i64 0] 28))))
              have g5 := (K5.out.below hbW5).old (.cells #[.int .i64 (unl true 14), .int .i64 (unl true 3)] 28)
              have g6 := (K6.out.below hbW5).old (.cells #[.int .i64 (unl true 14), .int .i64 (unl true 3)] 28)
              obtain ⟨W6, hW6⟩ : ∃ W6, W6 = W5.alloc (.cells #[.int .i64 (unl true 14), .int .i64 (unl true 3)] 28) := ⟨_, rfl⟩
              have hr6 := (KR.out.below hbW5).old (.cells #[.int .i64 (unl true 14), .int .i64 (unl true 3)] 28)
              have hbw6 := bel_alloc (bel_trans hb hbW5) (.cells #[.int .i64 (unl true 14), .int .i64 (unl true 3)] 28)
              rw [← hW6] at g5 g6 hbw6 hr6
              rw [← hW6]
              have HR6 := Lib.hid hr6
              have G5 := Lib.hid g5
              have G6 := Lib.hid g6
              have hc5 := g5.cells
              have hf5 := g5.frozen
              have hc6 := g6.cells
              have hl5 := g5.lt
              have hl6' := g6.lt
              clear hW6 hr6 g5 g6 hx6 hx7 hbw5 HR5 hbW5 hcW5 hfW5
              go_region
              by_cases h0 : er = 0
              · have e := HRV.out
                rw [if_pos h0] at e
                have E9 := Lib.hid e
                have E8 := Lib.hid (HEV.out.trans h0)
                subst h0
                go_wp2_with (first | (go_at_call 21; (with_reducible refine (HE.out _).mono ?_); rintro e W7 ⟨rfl, hbW7⟩; have hbw7 : Below w.heap.size w W7 := bel_trans (by exact ((bel_drewN hbw6 _).setCell (Nat.le_of_lt hlt1) _).setCell (Nat.le_of_lt hlt1) _) hbW7; have g7 : Box W7 W1.heap.size #[.int .i64 V.k, .int .i64 V.a, .int .i64 V.e, .int .i64 V.c, .string (rs.extract 0 N), .string (rs.extract N rs.size)] 27 := Box.below (by exact Box.setCell (Box.setCell G5.out 4 _) 5 _) hbW7; have hx7 := g7.cells; have G7 := Lib.hid g7; have HR7 : Hid (Box W7 w.heap.size #[.int .i64 0, .int .i64 0, .int .i64 0, .int .i64 0, .string ⟨#[]⟩, .string ⟨#[]⟩] 27) := Lib.hid (Box.below (by exact Box.other (Box.other HR6.out 4 _ (Nat.ne_of_lt hlt1)) 5 _ (Nat.ne_of_lt hlt1)) hbW7); have hl7' := g7.lt; clear g7) | (refine wpList_store_new rfl 27 (.tmp 2) (.tmp 85) rfl rfl w.heap.size #[.int .i64 V.k, .int .i64 V.a, .int .i64 V.e, .int .i64 V.c, .string (rs.extract 0 N), .string (rs.extract N rs.size)] rfl rfl w hbw7 (Nat.le_refl _) 27 _ HR7.out (by kernel_rfl) (by kernel_rfl) (by kernel_rfl) ?_; intro W8 hb8 hbox8 _))
                exact bodyPost_ret (results_cell_tmp Tryd.results45 _ W8 w.heap.size 27 _ _ _ rfl rfl hbox8 Tryd.underlying27 rfl (by kernel_rfl)) rfl ⟨by rw [HRv.out, HEv.out, E9.out, E8.out, Q5.out, Q6.out]; rfl, hb8⟩
              · have h0' : (er != 0) = true := by simp [h0]
                have e := HRV.out
                rw [if_neg h0] at e
                have E9 := Lib.hid e
                clear h0 e
                go_wp2_with (first | (go_at_call 21; (with_reducible refine (HE.out _).mono ?_); rintro e W7 ⟨rfl, hbW7⟩; have hbw7 : Below w.heap.size w W7 := bel_trans (by exact ((bel_drewN hbw6 _).setCell (Nat.le_of_lt hlt1) _).setCell (Nat.le_of_lt hlt1) _) hbW7; have g7 : Box W7 W1.heap.size #[.int .i64 V.k, .int .i64 V.a, .int .i64 V.e, .int .i64 V.c, .string (rs.extract 0 N), .string (rs.extract N rs.size)] 27 := Box.below (by exact Box.setCell (Box.setCell G5.out 4 _) 5 _) hbW7; have hx7 := g7.cells; have G7 := Lib.hid g7; have HR7 : Hid (Box W7 w.heap.size #[.int .i64 0, .int .i64 0, .int .i64 0, .int .i64 0, .string ⟨#[]⟩, .string ⟨#[]⟩] 27) := Lib.hid (Box.below (by exact Box.other (Box.other HR6.out 4 _ (Nat.ne_of_lt hlt1)) 5 _ (Nat.ne_of_lt hlt1)) hbW7); have hl7' := g7.lt; clear g7) | (refine wpList_store_new rfl 27 (.tmp 2) (.tmp 83) rfl rfl w.heap.size #[.int .i64 0, .int .i64 0, .int .i64 0, .int .i64 0, .string ⟨#[]⟩, .string ⟨#[]⟩] rfl rfl w hbw7 (Nat.le_refl _) 27 _ HR7.out (by kernel_rfl) (by kernel_rfl) (by kernel_rfl) ?_; intro W8 hb8 hbox8 _))
                exact bodyPost_ret (results_cell_tmp Tryd.results45 _ W8 w.heap.size 27 _ _ _ rfl rfl hbox8 Tryd.underlying27 rfl (by kernel_rfl)) rfl ⟨by rw [HRv.out, HEv.out, E9.out, HEV.out]; rfl, hb8⟩
end Go.Proofs.YtgmipogidmcilaaDoor
