/-
  Chapter 21: the operation with some bytes: the reference.
-/
import Derived.Test.YtgmipogidmcilaaDoorOpEnt3
import Derived.IntWalk
namespace Go.Proofs.YtgmipogidmcilaaDoor
set_option linter.unusedVariables false
set_option linter.unusedSimpArgs false
open Go.RowKit Go.Sort

def numAt (s : ByteArray) (i c : Nat) : Int := num (((bl s).drop i).take c)
theorem numAt_bd (s : ByteArray) (i c : Nat) (hc : c ≤ 4) : 0 ≤ numAt s i c ∧ numAt s i c < 4294967296 := by
  have h := num_bound (((bl s).drop i).take c)
  have hl : (((bl s).drop i).take c).length ≤ 4 := by rw [List.length_take]; omega
  have hp : (256 : Int) ^ (((bl s).drop i).take c).length ≤ 256 ^ 4 := by
    have : ∀ n : Nat, n ≤ 4 → (256 : Int) ^ n ≤ 256 ^ 4 := by decide
    exact this _ hl
  have : (256 : Int) ^ 4 = 4294967296 := by decide
  unfold numAt; omega
theorem numAt_bd2 (s : ByteArray) (i : Nat) : 0 ≤ numAt s i 2 ∧ numAt s i 2 < 65536 := by
  have h := num_bound (((bl s).drop i).take 2)
  have hl : (((bl s).drop i).take 2).length ≤ 2 := by rw [List.length_take]; omega
  have hp : (256 : Int) ^ (((bl s).drop i).take 2).length ≤ 256 ^ 2 := by
    have : ∀ n : Nat, n ≤ 2 → (256 : Int) ^ n ≤ 256 ^ 2 := by decide
    exact this _ hl
  have : (256 : Int) ^ 2 = 65536 := by decide
  unfold numAt; omega
theorem numAt_bd1 (s : ByteArray) (i : Nat) : 0 ≤ numAt s i 1 ∧ numAt s i 1 < 256 := by
  have h := num_bound (((bl s).drop i).take 1)
  have hl : (((bl s).drop i).take 1).length ≤ 1 := by rw [List.length_take]; omega
  have hp : (256 : Int) ^ (((bl s).drop i).take 1).length ≤ 256 ^ 1 := by
    have : ∀ n : Nat, n ≤ 1 → (256 : Int) ^ n ≤ 256 ^ 1 := by decide
    exact this _ hl
  have : (256 : Int) ^ 1 = 256 := by decide
  unfold numAt; omega
/-- the operation that some bytes spell -/
def ofV (s : ByteArray) : Op := ⟨numAt s 0 1, numAt s 1 2, numAt s 3 2, numAt s 5 2, s.extract 11 (11 + (numAt s 7 2).toNat), s.extract (11 + (numAt s 7 2).toNat) s.size⟩
def ofE (s : ByteArray) : Int := if 1035 < s.size then 8 else if s.size < 11 then 14 else if (s.size : Int) < 11 + numAt s 7 2 + numAt s 9 2 then 14 else if 11 + numAt s 7 2 + numAt s 9 2 < (s.size : Int) then 3 else opE (ofV s)
def ofR (s : ByteArray) : Op := if ofE s = 0 then ofV s else op0

theorem ofR_bad {s : ByteArray} {e : Int} (h : ofE s = e) (h0 : e ≠ 0) : ofR s = op0 := by unfold ofR; rw [if_neg (by rw [h]; exact h0)]
set_option maxRecDepth 100000 in
set_option maxHeartbeats 2000000 in
theorem refOf_any (s : ByteArray) (w : World) (hs : s.size ≤ maxLen) :
    Calls Tryd.prog 47 #[.string s] w fun r w' => r = .returned (.tuple #[opV (ofR s), .int .i64 (ofE s)]) ∧ Below w.heap.size w w' := by
  have hbel0 : Below w.heap.size w (w.alloc (.cells opZ 27)) := bel_alloc (Below.refl _ _) _
  have hblk0 : Box (w.alloc (.cells opZ 27)) w.heap.size opZ 27 := Box.new w _ _
  have hsI := hs
  unfold maxLen at hsI
  by_cases h1 : 1035 < s.size
  · have e1 : ofE s = 8 := by unfold ofE; rw [if_pos h1]
    rw [ofR_bad e1 (by decide), e1]
    have h1' : (1035 : Int) < s.size := by omega
    clear e1 h1
    unfold opZ at *
    go_enter Tryd.func47, Tryd.ntmps47
    go_wp2_with (refine wpList_store_new rfl 27 (.tmp 2) (.tmp 11) rfl rfl w.heap.size #[.int .i64 0, .int .i64 0, .int .i64 0, .int .i64 0, .string ⟨#[]⟩, .string ⟨#[]⟩] rfl rfl w hbel0 (Nat.le_refl _) 27 _ hblk0 (by kernel_rfl) (by kernel_rfl) (by kernel_rfl) ?_; intro W3 hb3 hbox3 _)
    exact bodyPost_ret (results_cell_tmp Tryd.results47 _ W3 w.heap.size 27 _ _ _ rfl rfl hbox3 Tryd.underlying27 rfl (by kernel_rfl)) rfl ⟨rfl, hb3⟩
  · have h1' : (s.size : Int) ≤ 1035 := by omega
    by_cases h2 : s.size < 11
    · have e1 : ofE s = 14 := by unfold ofE; rw [if_neg h1, if_pos h2]
      rw [ofR_bad e1 (by decide), e1]
      have h2' : (s.size : Int) < 11 := by omega
      clear e1 h1 h2
      unfold opZ at *
      go_enter Tryd.func47, Tryd.ntmps47
      go_wp2_with (refine wpList_store_new rfl 27 (.tmp 2) (.tmp 15) rfl rfl w.heap.size #[.int .i64 0, .int .i64 0, .int .i64 0, .int .i64 0, .string ⟨#[]⟩, .string ⟨#[]⟩] rfl rfl w hbel0 (Nat.le_refl _) 27 _ hblk0 (by kernel_rfl) (by kernel_rfl) (by kernel_rfl) ?_; intro W3 hb3 hbox3 _)
      exact bodyPost_ret (results_cell_tmp Tryd.results47 _ W3 w.heap.size 27 _ _ _ rfl rfl hbox3 Tryd.underlying27 rfl (by kernel_rfl)) rfl ⟨rfl, hb3⟩
    · have h2' : (11 : Int) ≤ s.size := by omega
      have hL := fun (i c : Nat) (h : i + c ≤ s.size) (hc : c ≤ 6) W => LittleAt_any s i c h hs hc W
      have hL7 : ∀ W, Calls Tryd.prog 76 #[.string s, .int .i64 7, .int .i64 2] W fun e w' => e = .returned (.int .i64 (numAt s 7 2)) ∧ W = w' := hL 7 2 (by omega) (by omega)
      have hL9 : ∀ W, Calls Tryd.prog 76 #[.string s, .int .i64 9, .int .i64 2] W fun e w' => e = .returned (.int .i64 (numAt s 9 2)) ∧ W = w' := hL 9 2 (by omega) (by omega)
      have hL0 : ∀ W, Calls Tryd.prog 76 #[.string s, .int .i64 0, .int .i64 1] W fun e w' => e = .returned (.int .i64 (numAt s 0 1)) ∧ W = w' := hL 0 1 (by omega) (by omega)
      have hL1 : ∀ W, Calls Tryd.prog 76 #[.string s, .int .i64 1, .int .i64 2] W fun e w' => e = .returned (.int .i64 (numAt s 1 2)) ∧ W = w' := hL 1 2 (by omega) (by omega)
      have hL3 : ∀ W, Calls Tryd.prog 76 #[.string s, .int .i64 3, .int .i64 2] W fun e w' => e = .returned (.int .i64 (numAt s 3 2)) ∧ W = w' := hL 3 2 (by omega) (by omega)
      have hL5 : ∀ W, Calls Tryd.prog 76 #[.string s, .int .i64 5, .int .i64 2] W fun e w' => e = .returned (.int .i64 (numAt s 5 2)) ∧ W = w' := hL 5 2 (by omega) (by omega)
      obtain ⟨b7, c7⟩ := numAt_bd2 s 7
      obtain ⟨b9, c9⟩ := numAt_bd2 s 9
      obtain ⟨N, hN⟩ := Int.eq_ofNat_of_zero_le b7
      obtain ⟨M, hM⟩ := Int.eq_ofNat_of_zero_le b9
      have ev : ofV s = ⟨numAt s 0 1, numAt s 1 2, numAt s 3 2, numAt s 5 2, s.extract 11 (11 + N), s.extract (11 + N) s.size⟩ := by unfold ofV; rw [hN]; rfl
      have ee : ofE s = if (s.size : Int) < 11 + (N : Int) + M then 14 else if 11 + (N : Int) + M < (s.size : Int) then 3 else opE (ofV s) := by unfold ofE; rw [if_neg h1, if_neg h2, hN, hM]
      rw [hN] at hL7 c7
      rw [hM] at hL9 c9
      have w1 : IntKind.i64.wrap (11 + (N : Int)) = 11 + (N : Int) := IntWalk.i64_in _ (by omega)
      have w2 : IntKind.i64.wrap (11 + (N : Int) + (M : Int)) = 11 + (N : Int) + (M : Int) := IntWalk.i64_in _ (by omega)
      have w3 : 0 ≤ 11 + (N : Int) := by omega
      have w4 : (11 + (N : Int)).toNat = 11 + N := by omega
      clear c7 c9
      have HL7 := Lib.hid hL7
      have HL9 := Lib.hid hL9
      clear hL hL7 hL9 b7 b9 hN hM h1 h2
      by_cases h3 : (s.size : Int) < 11 + (N : Int) + M
      · have e1 : ofE s = 14 := by rw [ee, if_pos h3]
        rw [ofR_bad e1 (by decide), e1]
        clear e1 ev ee hL0 hL1 hL3 hL5
        unfold opZ at *
        go_enter Tryd.func47, Tryd.ntmps47
        go_wp2_with (first | (go_at_call 76; (with_reducible refine (HL7.out _).mono ?_); rintro e w' ⟨rfl, rfl⟩) | (go_at_call 76; (with_reducible refine (HL9.out _).mono ?_); rintro e w' ⟨rfl, rfl⟩) | (refine wpList_store_new rfl 27 (.tmp 2) (.tmp 27) rfl rfl w.heap.size #[.int .i64 0, .int .i64 0, .int .i64 0, .int .i64 0, .string ⟨#[]⟩, .string ⟨#[]⟩] rfl rfl w hbel0 (Nat.le_refl _) 27 _ hblk0 (by kernel_rfl) (by kernel_rfl) (by kernel_rfl) ?_; intro W3 hb3 hbox3 _))
        exact bodyPost_ret (results_cell_tmp Tryd.results47 _ W3 w.heap.size 27 _ _ _ rfl rfl hbox3 Tryd.underlying27 rfl (by kernel_rfl)) rfl ⟨rfl, hb3⟩
      · by_cases h4 : 11 + (N : Int) + M < (s.size : Int)
        · have h3' : 11 + (N : Int) + M ≤ (s.size : Int) := by omega
          have e1 : ofE s = 3 := by rw [ee, if_neg h3, if_pos h4]
          rw [ofR_bad e1 (by decide), e1]
          clear e1 ev ee hL0 hL1 hL3 hL5 h3
          unfold opZ at *
          go_enter Tryd.func47, Tryd.ntmps47
          go_wp2_with (first | (go_at_call 76; (with_reducible refine (HL7.out _).mono ?_); rintro e w' ⟨rfl, rfl⟩) | (go_at_call 76; (with_reducible refine (HL9.out _).mono ?_); rintro e w' ⟨rfl, rfl⟩) | (refine wpList_store_new rfl 27 (.tmp 2) (.tmp 35) rfl rfl w.heap.size #[.int .i64 0, .int .i64 0, .int .i64 0, .int .i64 0, .string ⟨#[]⟩, .string ⟨#[]⟩] rfl rfl w hbel0 (Nat.le_refl _) 27 _ hblk0 (by kernel_rfl) (by kernel_rfl) (by kernel_rfl) ?_; intro W3 hb3 hbox3 _))
          exact bodyPost_ret (results_cell_tmp Tryd.results47 _ W3 w.heap.size 27 _ _ _ rfl rfl hbox3 Tryd.underlying27 rfl (by kernel_rfl)) rfl ⟨rfl, hb3⟩
        · have e0 : ofE s = opE (ofV s) := by rw [ee, if_neg h3, if_neg h4]
          have hz1 : (s.extract 11 (11 + N)).size ≤ 3100 := by rw [ByteArray.size_extract]; omega
          have hz2 : (s.extract (11 + N) s.size).size ≤ 3100 := by rw [ByteArray.size_extract]; omega
          have hE := fun W => refOpErr_any (ofV s) W (by rw [ev]; exact hz1) (by rw [ev]; exact hz2)
          obtain ⟨V, hV⟩ : ∃ V, V = ofV s := ⟨_, rfl⟩
          have ev' : V = ⟨numAt s 0 1, numAt s 1 2, numAt s 3 2, numAt s 5 2, s.extract 11 (11 + N), s.extract (11 + N) s.size⟩ := hV.trans ev
          have q1 : numAt s 0 1 = V.k := by rw [ev']
          have q2 : numAt s 1 2 = V.a := by rw [ev']
          have q3 : numAt s 3 2 = V.e := by rw [ev']
          have q4 : numAt s 5 2 = V.c := by rw [ev']
          have q5 : s.extract 11 (11 + N) = V.o := by rw [ev']
          have q6 : s.extract (11 + N) s.size = V.n := by rw [ev']
          rw [q1] at hL0
          rw [q2] at hL1
          rw [q3] at hL3
          rw [q4] at hL5
          rw [← hV] at hE
          have hr : ofR s = if ofE s = 0 then V else op0 := by rw [hV]; rfl
          rw [hr, e0, ← hV]
          obtain ⟨er, her⟩ : ∃ e, e = opE V := ⟨_, rfl⟩
          rw [← her] at hE ⊢
          obtain ⟨R, hR⟩ : ∃ R, R = if er = 0 then V else op0 := ⟨_, rfl⟩
          rw [← hR]
          have HRR := Lib.hid hR
          have HL0 := Lib.hid hL0
          have HL1 := Lib.hid hL1
          have HL3 := Lib.hid hL3
          have HL5 := Lib.hid hL5
          have HE := Lib.hid hE
          have Q5 := Lib.hid q5
          have Q6 := Lib.hid q6
          have h3' : 11 + (N : Int) + M ≤ (s.size : Int) := by omega
          have h4' : (s.size : Int) ≤ 11 + (N : Int) + M := by omega
          have w5 : (11 : Int) + (N : Int) ≤ s.size := by omega
          clear hR hL0 hL1 hL3 hL5 hE q1 q2 q3 q4 q5 q6 ev ev' ee e0 hV hr her h3 h4 hz1 hz2
          unfold opV at HE
          unfold opZ at *
          go_enter Tryd.func47, Tryd.ntmps47
          go_wp2_with (first | (go_at_call 76; (with_reducible refine (HL7.out _).mono ?_); rintro e w' ⟨rfl, rfl⟩) | (go_at_call 76; (with_reducible refine (HL9.out _).mono ?_); rintro e w' ⟨rfl, rfl⟩))
          refine wp_region_atail 17 _ (.cells #[.int .i64 0, .int .i64 0, .int .i64 0, .int .i64 0, .string ⟨#[]⟩, .string ⟨#[]⟩] 27) (by kernel_rfl) (by kernel_rfl) rfl (by kernel_rfl) (fun ev X => by kernel_rfl) ?_
          apply Exists.intro
          refine ⟨fun X hX => ?_, ?_⟩
          · obtain ⟨hcX, hfX⟩ := bcell hX
            have hsX : w.heap.size < X.heap.size := by have := hX.size; simp at this; omega
            simp only [List.take_succ_cons, List.take_zero]
            (repeat (go_big_quiet_step ((first | (go_at_call 76; (with_reducible exact Calls.reg_pure (HL0.out _))) | (go_at_call 76; (with_reducible exact Calls.reg_pure (HL1.out _))) | (go_at_call 76; (with_reducible exact Calls.reg_pure (HL3.out _))) | (go_at_call 76; (with_reducible exact Calls.reg_pure (HL5.out _)))))))
            exact wpQuiet_nil rfl
          · intro b1 W1 hbW1 hle hblk
            simp only [List.drop_succ_cons, List.drop_zero, Act.put, List.setIfInBounds_toArray, List.set_cons_succ, List.set_cons_zero]
            refine wpList_store_new rfl 27 _ _ rfl rfl b1 _ rfl rfl _ hbW1 hle 27 _ hblk (by kernel_rfl) rfl (by kernel_rfl) ?_
            intro W2 hb2 hbox2 _
            rw [Q5.out, Q6.out] at hbox2
            have hx2 := hbox2.cells
            have hr2 := hblk0.below hb2
            have hbw2 := bel_trans hbel0 hb2
            have hlt2 := hbox2.lt
            clear hbW1 hle hblk w1 w2 w4
            apply wpList_nil
            have HBOX2 := Lib.hid hbox2
            have HR2 := Lib.hid hr2
            clear hbox2 hr2
            have e := HRR.out
            by_cases h0 : er = 0
            · rw [if_pos h0] at e
              have e := e.symm
              subst h0
              subst e
              go_wp2_with (first | (go_at_call 23; (with_reducible refine (HE.out _).mono ?_); rintro e W3 ⟨rfl, hbW3⟩; have hbw3 := bel_trans hbw2 hbW3; have hbox3 := HBOX2.out.below hbW3; have hx3 := hbox3.cells; have hr3 := HR2.out.below hbW3; have HR3 := Lib.hid hr3; clear hbox3 hr3) | (refine wpList_store_new rfl 27 (.tmp 2) (.tmp 59) rfl rfl w.heap.size #[.int .i64 V.k, .int .i64 V.a, .int .i64 V.e, .int .i64 V.c, .string V.o, .string V.n] rfl rfl w hbw3 (Nat.le_refl _) 27 _ HR3.out (by kernel_rfl) (by kernel_rfl) (by kernel_rfl) ?_; intro W4 hb4 hbox4 _))
              exact bodyPost_ret (results_cell_tmp Tryd.results47 _ W4 w.heap.size 27 _ _ _ rfl rfl hbox4 Tryd.underlying27 rfl (by kernel_rfl)) rfl ⟨rfl, hb4⟩
            · rw [if_neg h0] at e
              have h0' : (er != 0) = true := by simp [h0]
              subst e
              clear h0
              go_wp2_with (first | (go_at_call 23; (with_reducible refine (HE.out _).mono ?_); rintro e W3 ⟨rfl, hbW3⟩; have hbw3 := bel_trans hbw2 hbW3; have hbox3 := HBOX2.out.below hbW3; have hx3 := hbox3.cells; have hr3 := HR2.out.below hbW3; have HR3 := Lib.hid hr3; clear hbox3 hr3) | (refine wpList_store_new rfl 27 (.tmp 2) (.tmp 57) rfl rfl w.heap.size #[.int .i64 0, .int .i64 0, .int .i64 0, .int .i64 0, .string ⟨#[]⟩, .string ⟨#[]⟩] rfl rfl w hbw3 (Nat.le_refl _) 27 _ HR3.out (by kernel_rfl) (by kernel_rfl) (by kernel_rfl) ?_; intro W4 hb4 hbox4 _))
              exact bodyPost_ret (results_cell_tmp Tryd.results47 _ W4 w.heap.size 27 _ _ _ rfl rfl hbox4 Tryd.underlying27 rfl (by kernel_rfl)) rfl ⟨rfl, hb4⟩
end Go.Proofs.YtgmipogidmcilaaDoor
