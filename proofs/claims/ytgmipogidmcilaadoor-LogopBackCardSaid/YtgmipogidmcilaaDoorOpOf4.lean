/-
  Chapter 21: the entry with some bytes.
-/
import Derived.Test.YtgmipogidmcilaaDoorOpOf3
namespace Go.Proofs.YtgmipogidmcilaaDoor
set_option linter.unusedVariables false
set_option linter.unusedSimpArgs false
open Go.RowKit Go.Sort

theorem bel_drew {a w : World} (h : Below a.heap.size a w) : Below a.heap.size a w.drew := ⟨h.os, h.tape, h.output, h.size, h.block⟩
theorem Box.drew {w : World} {b : Nat} {cs : Array Value} {T : TypeId} (h : Box w b cs T) : Box w.drew b cs T := h
theorem numAt_one (s : ByteArray) (i : Nat) (h : i < s.size) : numAt s i 1 = (s[i].toNat : Int) := by
  unfold numAt
  rw [drop_bl s i h]
  simp [num]
theorem entOfE_ok {s : ByteArray} (h1 : ¬ 3000 < s.size) (h2 : ¬ s.size < 16) (h3 : ¬ (s.size : Int) < 16 + numAt s 14 2) (h4 : ¬ 1 < numAt s 1 1) : entOfE s = firstE [ofE (entTail s), entE (entOfV s)] := by
  unfold entOfE
  rw [if_neg h1, if_neg h2, if_neg h3, if_neg h4]
  by_cases h : ofE (entTail s) = 0
  · rw [if_neg (fun g => g h), h]
    by_cases h' : entE (entOfV s) = 0 <;> simp [firstE, h']
  · rw [if_pos h]; simp [firstE, h]

set_option maxRecDepth 100000 in
set_option maxHeartbeats 4000000 in
theorem EntryOf_any (s : ByteArray) (w : World) (hs : s.size ≤ maxLen) :
    Calls Tryd.prog 46 #[.string s] w fun r w' => r = .returned (.tuple #[entV (entOfR s), .int .i64 (entOfE s)]) ∧ Below w.heap.size w w' := by
  have hbel0 : Below w.heap.size w (w.alloc (.cells #[.int .i64 0, .int .i64 0, .int .i64 0, .int .i64 0, .int .i64 0, .bool false, .int .i64 0, .int .i64 0, .int .i64 0, .int .i64 0, .string ⟨#[]⟩, .string ⟨#[]⟩, .string ⟨#[]⟩] 57)) := bel_alloc (Below.refl _ _) _
  have hblk0 : Box (w.alloc (.cells #[.int .i64 0, .int .i64 0, .int .i64 0, .int .i64 0, .int .i64 0, .bool false, .int .i64 0, .int .i64 0, .int .i64 0, .int .i64 0, .string ⟨#[]⟩, .string ⟨#[]⟩, .string ⟨#[]⟩] 57)) w.heap.size #[.int .i64 0, .int .i64 0, .int .i64 0, .int .i64 0, .int .i64 0, .bool false, .int .i64 0, .int .i64 0, .int .i64 0, .int .i64 0, .string ⟨#[]⟩, .string ⟨#[]⟩, .string ⟨#[]⟩] 57 := Box.new w _ _
  have hsI := hs
  unfold maxLen at hsI
  by_cases h1 : 3000 < s.size
  · have e1 : entOfE s = 8 := by unfold entOfE; rw [if_pos h1]
    rw [entOfR_bad e1 (by decide), e1]
    have d1 : decide ((s.size : Int) ≤ 3000) = false := by rw [decide_eq_false_iff_not]; omega
    have d2 : decide ((s.size : Int) ≥ 16) = true := by rw [decide_eq_true_eq]; omega
    have h1' : (3000 : Int) < s.size := by omega
    have h2' : (16 : Int) ≤ s.size := by omega
    have hf : firstE [unl false 8, unl true 14] = 8 := rfl
    clear e1 h1
    go_enter Tryd.func46, Tryd.ntmps46
    go_upto_region 1 with (fail)
    obtain ⟨W0, hW0⟩ : ∃ W0, W0 = w.alloc (.cells #[.int .i64 0, .int .i64 0, .int .i64 0, .int .i64 0, .int .i64 0, .bool false, .int .i64 0, .int .i64 0, .int .i64 0, .int .i64 0, .string ⟨#[]⟩, .string ⟨#[]⟩, .string ⟨#[]⟩] 57) := ⟨_, rfl⟩
    rw [← hW0] at hbel0 hblk0
    rw [← hW0]
    clear hW0
    go_wp2_with (first | (go_at_call 54; refine (logop_unless_any _ _ _).mono ?_; rintro e w' ⟨rfl, rfl⟩) | (go_at_call 52; refine (logop_first_list [_, _] W0 (by simp)).mono ?_; rintro e w' ⟨rfl, rfl⟩; have hbw1 := bel_alloc hbel0 (.cells #[.int .i64 (unl false 8), .int .i64 (unl true 14)] 28); have HR1 := Lib.hid (Box.old hblk0 (.cells #[.int .i64 (unl false 8), .int .i64 (unl true 14)] 28))) | (refine wpList_store_new rfl 57 (.tmp 2) (.tmp 23) rfl rfl w.heap.size #[.int .i64 0, .int .i64 0, .int .i64 0, .int .i64 0, .int .i64 0, .bool false, .int .i64 0, .int .i64 0, .int .i64 0, .int .i64 0, .string ⟨#[]⟩, .string ⟨#[]⟩, .string ⟨#[]⟩] rfl rfl w hbw1 (Nat.le_refl _) 57 _ HR1.out (by kernel_rfl) (by kernel_rfl) (by kernel_rfl) ?_; intro W3 hb3 hbox3 _))
    exact bodyPost_ret (results_cell_tmp Tryd.results46 _ W3 w.heap.size 57 _ _ _ rfl rfl hbox3 Tryd.underlying57 rfl (by kernel_rfl)) rfl ⟨rfl, hb3⟩
  · have h1' : (s.size : Int) ≤ 3000 := by omega
    have d1 : decide ((s.size : Int) ≤ 3000) = true := by rw [decide_eq_true_eq]; omega
    by_cases h2 : s.size < 16
    · have e1 : entOfE s = 14 := by unfold entOfE; rw [if_neg h1, if_pos h2]
      rw [entOfR_bad e1 (by decide), e1]
      have d2 : decide ((s.size : Int) ≥ 16) = false := by rw [decide_eq_false_iff_not]; omega
      have h2' : (s.size : Int) < 16 := by omega
      have hf : firstE [unl true 8, unl false 14] = 14 := rfl
      clear e1 h1 h2
      go_enter Tryd.func46, Tryd.ntmps46
      go_upto_region 1 with (fail)
      obtain ⟨W0, hW0⟩ : ∃ W0, W0 = w.alloc (.cells #[.int .i64 0, .int .i64 0, .int .i64 0, .int .i64 0, .int .i64 0, .bool false, .int .i64 0, .int .i64 0, .int .i64 0, .int .i64 0, .string ⟨#[]⟩, .string ⟨#[]⟩, .string ⟨#[]⟩] 57) := ⟨_, rfl⟩
      rw [← hW0] at hbel0 hblk0
      rw [← hW0]
      clear hW0
      go_wp2_with (first | (go_at_call 54; refine (logop_unless_any _ _ _).mono ?_; rintro e w' ⟨rfl, rfl⟩) | (go_at_call 52; refine (logop_first_list [_, _] W0 (by simp)).mono ?_; rintro e w' ⟨rfl, rfl⟩; have hbw1 := bel_alloc hbel0 (.cells #[.int .i64 (unl true 8), .int .i64 (unl false 14)] 28); have HR1 := Lib.hid (Box.old hblk0 (.cells #[.int .i64 (unl true 8), .int .i64 (unl false 14)] 28))) | (refine wpList_store_new rfl 57 (.tmp 2) (.tmp 23) rfl rfl w.heap.size #[.int .i64 0, .int .i64 0, .int .i64 0, .int .i64 0, .int .i64 0, .bool false, .int .i64 0, .int .i64 0, .int .i64 0, .int .i64 0, .string ⟨#[]⟩, .string ⟨#[]⟩, .string ⟨#[]⟩] rfl rfl w hbw1 (Nat.le_refl _) 57 _ HR1.out (by kernel_rfl) (by kernel_rfl) (by kernel_rfl) ?_; intro W3 hb3 hbox3 _))
      exact bodyPost_ret (results_cell_tmp Tryd.results46 _ W3 w.heap.size 57 _ _ _ rfl rfl hbox3 Tryd.underlying57 rfl (by kernel_rfl)) rfl ⟨rfl, hb3⟩
    · have d2 : decide ((s.size : Int) ≥ 16) = true := by rw [decide_eq_true_eq]; omega
      have h2' : (16 : Int) ≤ s.size := by omega
      have hf : firstE [unl true 8, unl true 14] = 0 := rfl
      have hs1 : 1 < s.size := by omega
      have hs1' : (1 : Int) < s.size := by omega
      have HN0 := Lib.hid (number_mid s 0 1 1 rfl (by omega))
      have HN2 := Lib.hid (number_mid s 2 4 2 rfl (by omega))
      have HN4 := Lib.hid (number_mid s 4 8 4 rfl (by omega))
      have HN8 := Lib.hid (number_mid s 8 12 4 rfl (by omega))
      have HN12 := Lib.hid (number_mid s 12 14 2 rfl (by omega))
      obtain ⟨b7, c7⟩ := numAt_bd2 s 14
      obtain ⟨N, hN⟩ := Int.eq_ofNat_of_zero_le b7
      have hn14 := number_mid s 14 16 2 rfl (by omega)
      rw [hN] at hn14
      have HN14 := Lib.hid hn14
      have hm1 := numAt_one s 1 hs1
      obtain ⟨R, hRv⟩ : ∃ R, R = entOfR s := ⟨_, rfl⟩
      obtain ⟨E, hEv⟩ : ∃ E, E = entOfE s := ⟨_, rfl⟩
      rw [← hRv, ← hEv]
      have HRv := Lib.hid hRv
      have HEv := Lib.hid hEv
      have e14 : (s.size : Int) < 16 + (N : Int) → entOfE s = 14 := fun h => by unfold entOfE; rw [if_neg h1, if_neg h2, hN, if_pos h]
      have e3 : ¬ (s.size : Int) < 16 + (N : Int) → (1 : Int) < (s[1].toNat : Int) → entOfE s = 3 := fun h h' => by unfold entOfE; rw [if_neg h1, if_neg h2, hN, if_neg h, hm1, if_pos h']
      have eok : ¬ (s.size : Int) < 16 + (N : Int) → ¬ (1 : Int) < (s[1].toNat : Int) → entOfE s = firstE [ofE (entTail s), entE (entOfV s)] := fun h h' => entOfE_ok h1 h2 (by rw [hN]; exact h) (by rw [hm1]; exact h')
      have et : entTail s = s.extract (16 + N) s.size := by unfold entTail; rw [hN]; rfl
      have ev : entOfV s = ⟨numAt s 0 1, numAt s 2 2, numAt s 4 4, numAt s 8 4, numAt s 12 2, (s[1].toNat : Int) == 1, ofR (entTail s), s.extract 16 (16 + N)⟩ := by unfold entOfV; rw [hN, hm1]; rfl
      have E14 := Lib.hid e14
      have E3 := Lib.hid e3
      have EOK := Lib.hid eok
      have ET := Lib.hid et
      have EV := Lib.hid ev
      clear hn14 b7 c7 hN hm1 hRv hEv e14 e3 eok et ev h1 h2
      go_enter Tryd.func46, Tryd.ntmps46
      go_upto_region 1 with (fail)
      obtain ⟨W0, hW0⟩ : ∃ W0, W0 = w.alloc (.cells #[.int .i64 0, .int .i64 0, .int .i64 0, .int .i64 0, .int .i64 0, .bool false, .int .i64 0, .int .i64 0, .int .i64 0, .int .i64 0, .string ⟨#[]⟩, .string ⟨#[]⟩, .string ⟨#[]⟩] 57) := ⟨_, rfl⟩
      rw [← hW0] at hbel0 hblk0
      rw [← hW0]
      clear hW0
      go_wp2_with (first | (go_at_call 54; refine (logop_unless_any _ _ _).mono ?_; rintro e w' ⟨rfl, rfl⟩) | (go_at_call 52; refine (logop_first_list [_, _] W0 (by simp)).mono ?_; rintro e w' ⟨rfl, rfl⟩; have hbw1 := bel_alloc hbel0 (.cells #[.int .i64 (unl true 8), .int .i64 (unl true 14)] 28); have HR1 := Lib.hid (Box.old hblk0 (.cells #[.int .i64 (unl true 8), .int .i64 (unl true 14)] 28))))
      have hr1 := HR1.out
      obtain ⟨W1, hW1⟩ : ∃ W1, W1 = W0.alloc (.cells #[.int .i64 (unl true 8), .int .i64 (unl true 14)] 28) := ⟨_, rfl⟩
      rw [← hW1] at hbw1 hr1
      rw [← hW1]
      clear hW1 HR1 hbel0 hblk0 d1 d2 hf
      have HR1 := Lib.hid hr1
      clear hr1
      refine wp_region_atail 19 _ (.cells #[.int .i64 0, .int .i64 0, .int .i64 0, .int .i64 0, .int .i64 0, .bool false, .int .i64 0, .int .i64 0, .int .i64 0, .int .i64 0, .string ⟨#[]⟩, .string ⟨#[]⟩, .string ⟨#[]⟩] 57) (by kernel_rfl) (by kernel_rfl) rfl (by kernel_rfl) (fun ev X => by kernel_rfl) ?_
      apply Exists.intro
      refine ⟨fun X hX => ?_, ?_⟩
      · obtain ⟨hcX, hfX⟩ := bcell hX
        simp only [List.take_succ_cons, List.take_zero]
        (repeat (go_big_quiet_step ((first | (go_at_call 77; (with_reducible exact Calls.regrown_of (HN0.out _))) | (go_at_call 77; (with_reducible exact Calls.regrown_of (HN2.out _))) | (go_at_call 77; (with_reducible exact Calls.regrown_of (HN4.out _))) | (go_at_call 77; (with_reducible exact Calls.regrown_of (HN8.out _))) | (go_at_call 77; (with_reducible exact Calls.regrown_of (HN12.out _)))))))
        exact wpQuiet_nil rfl
      · intro b1 W2 hbW2 hle hblk
        simp only [List.drop_succ_cons, List.drop_zero, Act.put, List.setIfInBounds_toArray, List.set_cons_succ, List.set_cons_zero]
        refine wpList_store_new rfl 57 _ _ rfl rfl b1 #[.int .i64 (numAt s 0 1), .int .i64 (numAt s 2 2), .int .i64 (numAt s 4 4), .int .i64 (numAt s 8 4), .int .i64 (numAt s 12 2), .bool ((s[1].toNat : Int) == 1), .int .i64 0, .int .i64 0, .int .i64 0, .int .i64 0, .string ⟨#[]⟩, .string ⟨#[]⟩, .string ⟨#[]⟩] rfl rfl _ hbW2 hle 57 _ hblk (by kernel_rfl) rfl (by kernel_rfl) ?_
        intro W3 hb3 hbox3 _
        have hr3 := HR1.out.below hb3
        have hbw3 := bel_trans hbw1 hb3
        have hwb : w.heap.size < b1 := Nat.lt_of_lt_of_le HR1.out.lt hle
        have HBX := Lib.hid hbox3
        have HR3 := Lib.hid hr3
        clear hbW2 hle hblk hbox3 hr3 hb3
        apply wpList_nil
        go_wp2_with fail
        (refine wp_region_quiet_below (by kernel_rfl) (by kernel_rfl) ?_; (repeat (go_big_quiet_step ((first | (go_at_call 77; (with_reducible exact Calls.regrown_of (HN14.out _))))))); (with_reducible refine wpQuiet_nil ?_); intro W4 hreg; have hbW4 := below_of_reg hreg; clear hreg; obtain ⟨hcW4, hfW4⟩ := bcell hbW4)
        go_upto_region 6 with (fail)
        obtain ⟨rs, hrs⟩ : ∃ rs, rs = s.extract 16 s.size := ⟨_, rfl⟩
        rw [← hrs]
        have hz1 : (rs.size : Int) = s.size - 16 := by rw [hrs, ByteArray.size_extract]; omega
        have HRS := Lib.hid hrs
        have hbw4 := bel_trans hbw3 hbW4
        have HR4 := Lib.hid (HR3.out.below hbW4)
        have HB4 := Lib.hid (HBX.out.below hbW4)
        clear hrs hcW4 hfW4 hbW4
        by_cases h3 : (s.size : Int) < 16 + (N : Int)
        · have E1 := Lib.hid (E14.out (by omega))
          have d3 : decide (N ≤ rs.size) = false := by rw [decide_eq_false_iff_not]; omega
          have d3' : (rs.size : Int) < (N : Int) := by omega
          by_cases h4 : (1 : Int) < (s[1].toNat : Int)
          · have d4 : decide ((s[1].toNat : Int) ≤ 1) = false := by rw [decide_eq_false_iff_not]; omega
            have hf : firstE [unl false 14, unl false 3] = 14 := rfl
            clear h3 hz1
            (refine wp_region_btail 9 (by kernel_rfl) (by kernel_rfl) ?_; simp only [List.take_succ_cons, List.take_zero, List.drop_succ_cons, List.drop_zero]; (repeat (go_big_quiet_step ((first | (go_at_call 54; exact Calls.reg_pure (logop_unless_any _ _ _)))))); (with_reducible refine wpQuiet_nil ?_); intro W5 hreg; have hbW5 := below_of_reg hreg; clear hreg; obtain ⟨hcW5, hfW5⟩ := bcell hbW5)
            go_wp2_with (first | (go_at_call 52; refine (logop_first_list [_, _] W5 (by simp)).mono ?_; rintro e w' ⟨rfl, rfl⟩; have hbw5 := bel_alloc (bel_trans hbw4 hbW5) (.cells #[.int .i64 (unl false 14), .int .i64 (unl false 3)] 28); have HR5 := Lib.hid (Box.old (HR4.out.below hbW5) (.cells #[.int .i64 (unl false 14), .int .i64 (unl false 3)] 28))) | (refine wpList_store_new rfl 57 (.tmp 2) (.tmp 62) rfl rfl w.heap.size #[.int .i64 0, .int .i64 0, .int .i64 0, .int .i64 0, .int .i64 0, .bool false, .int .i64 0, .int .i64 0, .int .i64 0, .int .i64 0, .string ⟨#[]⟩, .string ⟨#[]⟩, .string ⟨#[]⟩] rfl rfl w hbw5 (Nat.le_refl _) 57 _ HR5.out (by kernel_rfl) (by kernel_rfl) (by kernel_rfl) ?_; intro W8 hb8 hbox8 _))
            exact bodyPost_ret (results_cell_tmp Tryd.results46 _ W8 w.heap.size 57 _ _ _ rfl rfl hbox8 Tryd.underlying57 rfl (by kernel_rfl)) rfl ⟨by rw [HRv.out, HEv.out, entOfR_bad E1.out (by decide), E1.out]; rfl, hb8⟩
          · have d4 : (s[1].toNat : Int) ≤ 1 := by omega
            have hf : firstE [unl false 14, unl true 3] = 14 := rfl
            clear h3 h4 hz1
            (refine wp_region_btail 9 (by kernel_rfl) (by kernel_rfl) ?_; simp only [List.take_succ_cons, List.take_zero, List.drop_succ_cons, List.drop_zero]; (repeat (go_big_quiet_step ((first | (go_at_call 54; exact Calls.reg_pure (logop_unless_any _ _ _)))))); (with_reducible refine wpQuiet_nil ?_); intro W5 hreg; have hbW5 := below_of_reg hreg; clear hreg; obtain ⟨hcW5, hfW5⟩ := bcell hbW5)
            go_wp2_with (first | (go_at_call 52; refine (logop_first_list [_, _] W5 (by simp)).mono ?_; rintro e w' ⟨rfl, rfl⟩; have hbw5 := bel_alloc (bel_trans hbw4 hbW5) (.cells #[.int .i64 (unl false 14), .int .i64 (unl true 3)] 28); have HR5 := Lib.hid (Box.old (HR4.out.below hbW5) (.cells #[.int .i64 (unl false 14), .int .i64 (unl true 3)] 28))) | (refine wpList_store_new rfl 57 (.tmp 2) (.tmp 62) rfl rfl w.heap.size #[.int .i64 0, .int .i64 0, .int .i64 0, .int .i64 0, .int .i64 0, .bool false, .int .i64 0, .int .i64 0, .int .i64 0, .int .i64 0, .string ⟨#[]⟩, .string ⟨#[]⟩, .string ⟨#[]⟩] rfl rfl w hbw5 (Nat.le_refl _) 57 _ HR5.out (by kernel_rfl) (by kernel_rfl) (by kernel_rfl) ?_; intro W8 hb8 hbox8 _))
            exact bodyPost_ret (results_cell_tmp Tryd.results46 _ W8 w.heap.size 57 _ _ _ rfl rfl hbox8 Tryd.underlying57 rfl (by kernel_rfl)) rfl ⟨by rw [HRv.out, HEv.out, entOfR_bad E1.out (by decide), E1.out]; rfl, hb8⟩
        · by_cases h4 : (1 : Int) < (s[1].toNat : Int)
          · have E1 := Lib.hid (E3.out (by omega) (by omega))
            have d3 : (N : Int) ≤ (rs.size : Int) := by omega
            have d4 : decide ((s[1].toNat : Int) ≤ 1) = false := by rw [decide_eq_false_iff_not]; omega
            have hf : firstE [unl true 14, unl false 3] = 3 := rfl
            clear h3 hz1
            (refine wp_region_btail 9 (by kernel_rfl) (by kernel_rfl) ?_; simp only [List.take_succ_cons, List.take_zero, List.drop_succ_cons, List.drop_zero]; (repeat (go_big_quiet_step ((first | (go_at_call 54; exact Calls.reg_pure (logop_unless_any _ _ _)))))); (with_reducible refine wpQuiet_nil ?_); intro W5 hreg; have hbW5 := below_of_reg hreg; clear hreg; obtain ⟨hcW5, hfW5⟩ := bcell hbW5)
            go_wp2_with (first | (go_at_call 52; refine (logop_first_list [_, _] W5 (by simp)).mono ?_; rintro e w' ⟨rfl, rfl⟩; have hbw5 := bel_alloc (bel_trans hbw4 hbW5) (.cells #[.int .i64 (unl true 14), .int .i64 (unl false 3)] 28); have HR5 := Lib.hid (Box.old (HR4.out.below hbW5) (.cells #[.int .i64 (unl true 14), .int .i64 (unl false 3)] 28))) | (refine wpList_store_new rfl 57 (.tmp 2) (.tmp 62) rfl rfl w.heap.size #[.int .i64 0, .int .i64 0, .int .i64 0, .int .i64 0, .int .i64 0, .bool false, .int .i64 0, .int .i64 0, .int .i64 0, .int .i64 0, .string ⟨#[]⟩, .string ⟨#[]⟩, .string ⟨#[]⟩] rfl rfl w hbw5 (Nat.le_refl _) 57 _ HR5.out (by kernel_rfl) (by kernel_rfl) (by kernel_rfl) ?_; intro W8 hb8 hbox8 _))
            exact bodyPost_ret (results_cell_tmp Tryd.results46 _ W8 w.heap.size 57 _ _ _ rfl rfl hbox8 Tryd.underlying57 rfl (by kernel_rfl)) rfl ⟨by rw [HRv.out, HEv.out, entOfR_bad E1.out (by decide), E1.out]; rfl, hb8⟩
          · have d3 : (N : Int) ≤ (rs.size : Int) := by omega
            have d4 : (s[1].toNat : Int) ≤ 1 := by omega
            have hf : firstE [unl true 14, unl true 3] = 0 := rfl
            have hcl := cut_lo s 16 N (by omega)
            have hch := cut_hi s 16 N (by omega)
            rw [← HRS.out] at hcl hch
            have hte : rs.extract N rs.size = entTail s := hch.trans ET.out.symm
            have hsz : (rs.extract N rs.size).size ≤ 3100 := by rw [ByteArray.size_extract]; omega
            have hO := fun W => OpOf_any (rs.extract N rs.size) W (by unfold maxLen; omega)
            have ho := ofR_size (rs.extract N rs.size) hsz
            rw [hte] at hO ho
            have eok := EOK.out (by omega) (by omega)
            have ev := EV.out
            obtain ⟨O, hOO⟩ : ∃ O, O = ofR (entTail s) := ⟨_, rfl⟩
            obtain ⟨eo, heo⟩ : ∃ e, e = ofE (entTail s) := ⟨_, rfl⟩
            rw [← hOO, ← heo] at hO
            rw [← hOO] at ho ev
            rw [← heo] at eok
            rw [← hte] at hO
            rw [← hcl] at ev
            have hE := fun W => CheckEntry_f (numAt s 0 1) (numAt s 2 2) (numAt s 4 4) (numAt s 8 4) (numAt s 12 2) ((s[1].toNat : Int) == 1) O (rs.extract 0 N) W ho.1 ho.2 (by rw [ByteArray.size_extract]; unfold maxLen; omega)
            rw [← ev] at hE
            obtain ⟨e2, he2⟩ : ∃ e, e = entE (entOfV s) := ⟨_, rfl⟩
            rw [← he2] at hE eok
            unfold opV at hO
            have HO := Lib.hid hO
            have HE := Lib.hid hE
            have EOK2 := Lib.hid eok
            have EV2 := Lib.hid ev
            have hN1 : (N : Int) ≤ (rs.size : Int) := d3
            clear hO hE eok ev hcl hch hte hsz ho hOO heo he2 h3 h4 hz1
            (refine wp_region_btail 9 (by kernel_rfl) (by kernel_rfl) ?_; simp only [List.take_succ_cons, List.take_zero, List.drop_succ_cons, List.drop_zero]; (repeat (go_big_quiet_step ((first | (go_at_call 54; exact Calls.reg_pure (logop_unless_any _ _ _)))))); (with_reducible refine wpQuiet_nil ?_); intro W5 hreg; have hbW5 := below_of_reg hreg; clear hreg; obtain ⟨hcW5, hfW5⟩ := bcell hbW5)
            go_wp2_with (first | (go_at_call 52; refine (logop_first_list [_, _] W5 (by simp)).mono ?_; rintro e w' ⟨rfl, rfl⟩; have hbw5 := bel_alloc (bel_trans hbw4 hbW5) (.cells #[.int .i64 (unl true 14), .int .i64 (unl true 3)] 28); have HR5 := Lib.hid (Box.old (HR4.out.below hbW5) (.cells #[.int .i64 (unl true 14), .int .i64 (unl true 3)] 28))) | (go_at_call 45; (with_reducible refine (HO.out _).mono ?_); rintro e W6 ⟨rfl, hbW6⟩; have hbw6 := bel_trans hbw5 hbW6; have hr6 := HR5.out.below hbW6; have hlt6 := hr6.lt; have hx6 := ((HB4.out.below hbW5).old (.cells #[.int .i64 (unl true 14), .int .i64 (unl true 3)] 28)).below hbW6; have hltb := hx6.lt; have HR6 := Lib.hid hr6; have HX6 := Lib.hid hx6; have HNN := Lib.hid (Box.new W6 #[.int .i64 0, .int .i64 0, .int .i64 0, .int .i64 0, .string ⟨#[]⟩, .string ⟨#[]⟩] 27); have hba6 := bel_alloc hbw6 (.cells #[.int .i64 0, .int .i64 0, .int .i64 0, .int .i64 0, .string ⟨#[]⟩, .string ⟨#[]⟩] 27); clear hr6 hx6) | (refine wpList_store_new rfl 27 (.tmp 9) (.tmp 69) rfl rfl W6.heap.size #[.int .i64 O.k, .int .i64 O.a, .int .i64 O.e, .int .i64 O.c, .string O.o, .string O.n] rfl rfl w hba6 (Nat.le_of_lt hlt6) 27 _ HNN.out (by kernel_rfl) (by kernel_rfl) (by kernel_rfl) ?_; intro W7 hb7 hbox7 hk7; have hr7 := hk7 _ _ _ (Nat.ne_of_lt hlt6) (HR6.out.old _); have hx7 := hk7 _ _ _ (Nat.ne_of_lt hltb) (HX6.out.old _); have HBO := Lib.hid hbox7; have HR7 := Lib.hid hr7; have HX7 := Lib.hid hx7; clear hbox7 hr7 hx7 hk7))
            have hc9 := HBO.out.cells
            have hl9 := HBO.out.lt
            have hcx := HX7.out.cells
            have hfx := HX7.out.frozen
            have hlx := HX7.out.lt
            clear hcW5 hfW5
            go_region
            have y0 := HX7.out.setCell 12 (.string (rs.extract 0 N))
            have r0 := HR7.out.other 12 (.string (rs.extract 0 N)) (Nat.ne_of_lt hwb)
            have z0 := Below.setCell (p := ⟨b1, 12, none⟩) hb7 (Nat.le_of_lt hwb) (.string (rs.extract 0 N))
            have y1 := y0.setCell 6 (.int .i64 O.k)
            have r1 := r0.other 6 (.int .i64 O.k) (Nat.ne_of_lt hwb)
            have z1 := Below.setCell (p := ⟨b1, 6, none⟩) z0 (Nat.le_of_lt hwb) (.int .i64 O.k)
            have y2 := y1.setCell 7 (.int .i64 O.a)
            have r2 := r1.other 7 (.int .i64 O.a) (Nat.ne_of_lt hwb)
            have z2 := Below.setCell (p := ⟨b1, 7, none⟩) z1 (Nat.le_of_lt hwb) (.int .i64 O.a)
            have y3 := y2.setCell 8 (.int .i64 O.e)
            have r3 := r2.other 8 (.int .i64 O.e) (Nat.ne_of_lt hwb)
            have z3 := Below.setCell (p := ⟨b1, 8, none⟩) z2 (Nat.le_of_lt hwb) (.int .i64 O.e)
            have y4 := y3.setCell 9 (.int .i64 O.c)
            have r4 := r3.other 9 (.int .i64 O.c) (Nat.ne_of_lt hwb)
            have z4 := Below.setCell (p := ⟨b1, 9, none⟩) z3 (Nat.le_of_lt hwb) (.int .i64 O.c)
            have y5 := y4.setCell 10 (.string O.o)
            have r5 := r4.other 10 (.string O.o) (Nat.ne_of_lt hwb)
            have z5 := Below.setCell (p := ⟨b1, 10, none⟩) z4 (Nat.le_of_lt hwb) (.string O.o)
            have y6 := y5.setCell 11 (.string O.n)
            have r6 := r5.other 11 (.string O.n) (Nat.ne_of_lt hwb)
            have z6 := Below.setCell (p := ⟨b1, 11, none⟩) z5 (Nat.le_of_lt hwb) (.string O.n)
            have Y6 : Hid (Box _ b1 #[.int .i64 (numAt s 0 1), .int .i64 (numAt s 2 2), .int .i64 (numAt s 4 4), .int .i64 (numAt s 8 4), .int .i64 (numAt s 12 2), .bool ((s[1].toNat : Int) == 1), .int .i64 O.k, .int .i64 O.a, .int .i64 O.e, .int .i64 O.c, .string O.o, .string O.n, .string (rs.extract 0 N)] 57) := Lib.hid y6
            have R6 := Lib.hid r6
            have Z6 := Lib.hid z6
            clear y0 r0 z0 y1 r1 z1 y2 r2 z2 y3 r3 z3 y4 r4 z4 y5 r5 z5 y6 r6 z6
            obtain ⟨e9, he9⟩ : ∃ e, e = firstE [eo, e2] := ⟨_, rfl⟩
            have HF9 := Lib.hid he9
            have hfi : firstE [eo, e2] = e9 := he9.symm
            by_cases h0 : e9 = 0
            · have E8 := Lib.hid (EOK2.out.trans (hfi.trans h0))
              have hfi' : (firstE [eo, e2] != 0) = false := by rw [hfi, h0]; rfl
              clear he9 hfi h0
              go_wp2_with (first | (go_at_call 33; (with_reducible refine (HE.out _).mono ?_); rintro e W9 ⟨rfl, hbW9⟩; have hbw9 : Below w.heap.size w W9 := bel_trans (bel_drew Z6.out) hbW9; have g9 : Box W9 b1 #[.int .i64 (numAt s 0 1), .int .i64 (numAt s 2 2), .int .i64 (numAt s 4 4), .int .i64 (numAt s 8 4), .int .i64 (numAt s 12 2), .bool ((s[1].toNat : Int) == 1), .int .i64 O.k, .int .i64 O.a, .int .i64 O.e, .int .i64 O.c, .string O.o, .string O.n, .string (rs.extract 0 N)] 57 := Box.below (Box.drew Y6.out) hbW9; have hx9 := g9.cells; have hl9' := g9.lt; have G9 := Lib.hid g9; have HR9 : Hid (Box W9 w.heap.size #[.int .i64 0, .int .i64 0, .int .i64 0, .int .i64 0, .int .i64 0, .bool false, .int .i64 0, .int .i64 0, .int .i64 0, .int .i64 0, .string ⟨#[]⟩, .string ⟨#[]⟩, .string ⟨#[]⟩] 57) := Lib.hid (Box.below (Box.drew R6.out) hbW9); clear g9) | (go_at_call 52; refine (logop_first_list [_, _] W9 (by simp)).mono ?_; rintro e w' ⟨rfl, rfl⟩; have hbw10 := bel_alloc hbw9 (.cells #[.int .i64 eo, .int .i64 e2] 28); have HR10 := Lib.hid (Box.old HR9.out (.cells #[.int .i64 eo, .int .i64 e2] 28)); have hx10 := (Box.old G9.out (.cells #[.int .i64 eo, .int .i64 e2] 28)).cells) | (refine wpList_store_new rfl 57 (.tmp 2) (.tmp 86) rfl rfl w.heap.size #[.int .i64 (numAt s 0 1), .int .i64 (numAt s 2 2), .int .i64 (numAt s 4 4), .int .i64 (numAt s 8 4), .int .i64 (numAt s 12 2), .bool ((s[1].toNat : Int) == 1), .int .i64 O.k, .int .i64 O.a, .int .i64 O.e, .int .i64 O.c, .string O.o, .string O.n, .string (rs.extract 0 N)] rfl rfl w hbw10 (Nat.le_refl _) 57 _ HR10.out (by kernel_rfl) (by kernel_rfl) (by kernel_rfl) ?_; intro W11 hb11 hbox11 _))
              exact bodyPost_ret (results_cell_tmp Tryd.results46 _ W11 w.heap.size 57 _ _ _ rfl rfl hbox11 Tryd.underlying57 rfl (by kernel_rfl)) rfl ⟨by rw [HRv.out, HEv.out, E8.out]; unfold entOfR; rw [if_pos E8.out, EV2.out]; rfl, hb11⟩
            · have E8 := Lib.hid (EOK2.out.trans hfi)
              have hfi' : (firstE [eo, e2] != 0) = true := by rw [hfi]; simp [h0]
              have H0 := Lib.hid h0
              clear he9 hfi h0
              go_wp2_with (first | (go_at_call 33; (with_reducible refine (HE.out _).mono ?_); rintro e W9 ⟨rfl, hbW9⟩; have hbw9 : Below w.heap.size w W9 := bel_trans (bel_drew Z6.out) hbW9; have g9 : Box W9 b1 #[.int .i64 (numAt s 0 1), .int .i64 (numAt s 2 2), .int .i64 (numAt s 4 4), .int .i64 (numAt s 8 4), .int .i64 (numAt s 12 2), .bool ((s[1].toNat : Int) == 1), .int .i64 O.k, .int .i64 O.a, .int .i64 O.e, .int .i64 O.c, .string O.o, .string O.n, .string (rs.extract 0 N)] 57 := Box.below (Box.drew Y6.out) hbW9; have hx9 := g9.cells; have hl9' := g9.lt; have G9 := Lib.hid g9; have HR9 : Hid (Box W9 w.heap.size #[.int .i64 0, .int .i64 0, .int .i64 0, .int .i64 0, .int .i64 0, .bool false, .int .i64 0, .int .i64 0, .int .i64 0, .int .i64 0, .string ⟨#[]⟩, .string ⟨#[]⟩, .string ⟨#[]⟩] 57) := Lib.hid (Box.below (Box.drew R6.out) hbW9); clear g9) | (go_at_call 52; refine (logop_first_list [_, _] W9 (by simp)).mono ?_; rintro e w' ⟨rfl, rfl⟩; have hbw10 := bel_alloc hbw9 (.cells #[.int .i64 eo, .int .i64 e2] 28); have HR10 := Lib.hid (Box.old HR9.out (.cells #[.int .i64 eo, .int .i64 e2] 28)); have hx10 := (Box.old G9.out (.cells #[.int .i64 eo, .int .i64 e2] 28)).cells) | (refine wpList_store_new rfl 57 (.tmp 2) (.tmp 84) rfl rfl w.heap.size #[.int .i64 0, .int .i64 0, .int .i64 0, .int .i64 0, .int .i64 0, .bool false, .int .i64 0, .int .i64 0, .int .i64 0, .int .i64 0, .string ⟨#[]⟩, .string ⟨#[]⟩, .string ⟨#[]⟩] rfl rfl w hbw10 (Nat.le_refl _) 57 _ HR10.out (by kernel_rfl) (by kernel_rfl) (by kernel_rfl) ?_; intro W11 hb11 hbox11 _))
              exact bodyPost_ret (results_cell_tmp Tryd.results46 _ W11 w.heap.size 57 _ _ _ rfl rfl hbox11 Tryd.underlying57 rfl (by kernel_rfl)) rfl ⟨by rw [HRv.out, HEv.out, entOfR_bad E8.out H0.out, E8.out, HF9.out]; rfl, hb11⟩
end Go.Proofs.YtgmipogidmcilaaDoor
