/-
  Chapter 21: the entry with some bytes: the reference.
-/
import Derived.Test.YtgmipogidmcilaaDoorOpOf
namespace Go.Proofs.YtgmipogidmcilaaDoor
set_option linter.unusedVariables false
set_option linter.unusedSimpArgs false
open Go.RowKit Go.Sort

def ent0 : Ent := ⟨0, 0, 0, 0, 0, false, op0, ⟨#[]⟩⟩
def entTail (s : ByteArray) : ByteArray := s.extract (16 + (numAt s 14 2).toNat) s.size
def entOfV (s : ByteArray) : Ent := ⟨numAt s 0 1, numAt s 2 2, numAt s 4 4, numAt s 8 4, numAt s 12 2, numAt s 1 1 == 1, ofR (entTail s), s.extract 16 (16 + (numAt s 14 2).toNat)⟩
def entOfE (s : ByteArray) : Int := if 3000 < s.size then 8 else if s.size < 16 then 14 else if (s.size : Int) < 16 + numAt s 14 2 then 14 else if 1 < numAt s 1 1 then 3 else if ofE (entTail s) ≠ 0 then ofE (entTail s) else entE (entOfV s)
def entOfR (s : ByteArray) : Ent := if entOfE s = 0 then entOfV s else ent0
theorem entOfR_bad {s : ByteArray} {e : Int} (h : entOfE s = e) (h0 : e ≠ 0) : entOfR s = ent0 := by unfold entOfR; rw [if_neg (by rw [h]; exact h0)]
theorem ofR_size (s : ByteArray) (hs : s.size ≤ 3100) : (ofR s).o.size ≤ 3100 ∧ (ofR s).n.size ≤ 3100 := by
  unfold ofR
  split
  · unfold ofV; dsimp only
    rw [ByteArray.size_extract, ByteArray.size_extract]; omega
  · exact ⟨Nat.zero_le _, Nat.zero_le _⟩

set_option maxRecDepth 100000 in
set_option maxHeartbeats 4000000 in
theorem refEntryOf_any (s : ByteArray) (w : World) (hs : s.size ≤ maxLen) :
    Calls Tryd.prog 48 #[.string s] w fun r w' => r = .returned (.tuple #[entV (entOfR s), .int .i64 (entOfE s)]) ∧ Below w.heap.size w w' := by
  have hbel0 : Below w.heap.size w (w.alloc (.cells #[.int .i64 0, .int .i64 0, .int .i64 0, .int .i64 0, .int .i64 0, .bool false, .int .i64 0, .int .i64 0, .int .i64 0, .int .i64 0, .string ⟨#[]⟩, .string ⟨#[]⟩, .string ⟨#[]⟩] 57)) := bel_alloc (Below.refl _ _) _
  have hblk0 : Box (w.alloc (.cells #[.int .i64 0, .int .i64 0, .int .i64 0, .int .i64 0, .int .i64 0, .bool false, .int .i64 0, .int .i64 0, .int .i64 0, .int .i64 0, .string ⟨#[]⟩, .string ⟨#[]⟩, .string ⟨#[]⟩] 57)) w.heap.size #[.int .i64 0, .int .i64 0, .int .i64 0, .int .i64 0, .int .i64 0, .bool false, .int .i64 0, .int .i64 0, .int .i64 0, .int .i64 0, .string ⟨#[]⟩, .string ⟨#[]⟩, .string ⟨#[]⟩] 57 := Box.new w _ _
  have hsI := hs
  unfold maxLen at hsI
  by_cases h1 : 3000 < s.size
  · have e1 : entOfE s = 8 := by unfold entOfE; rw [if_pos h1]
    rw [entOfR_bad e1 (by decide), e1]
    have h1' : (3000 : Int) < s.size := by omega
    clear e1 h1
    go_enter Tryd.func48, Tryd.ntmps48
    go_wp2_with (refine wpList_store_new rfl 57 (.tmp 2) (.tmp 13) rfl rfl w.heap.size #[.int .i64 0, .int .i64 0, .int .i64 0, .int .i64 0, .int .i64 0, .bool false, .int .i64 0, .int .i64 0, .int .i64 0, .int .i64 0, .string ⟨#[]⟩, .string ⟨#[]⟩, .string ⟨#[]⟩] rfl rfl w hbel0 (Nat.le_refl _) 57 _ hblk0 (by kernel_rfl) (by kernel_rfl) (by kernel_rfl) ?_; intro W3 hb3 hbox3 _)
    exact bodyPost_ret (results_cell_tmp Tryd.results48 _ W3 w.heap.size 57 _ _ _ rfl rfl hbox3 Tryd.underlying57 rfl (by kernel_rfl)) rfl ⟨rfl, hb3⟩
  · have h1' : (s.size : Int) ≤ 3000 := by omega
    by_cases h2 : s.size < 16
    · have e1 : entOfE s = 14 := by unfold entOfE; rw [if_neg h1, if_pos h2]
      rw [entOfR_bad e1 (by decide), e1]
      have h2' : (s.size : Int) < 16 := by omega
      clear e1 h1 h2
      go_enter Tryd.func48, Tryd.ntmps48
      go_wp2_with (refine wpList_store_new rfl 57 (.tmp 2) (.tmp 17) rfl rfl w.heap.size #[.int .i64 0, .int .i64 0, .int .i64 0, .int .i64 0, .int .i64 0, .bool false, .int .i64 0, .int .i64 0, .int .i64 0, .int .i64 0, .string ⟨#[]⟩, .string ⟨#[]⟩, .string ⟨#[]⟩] rfl rfl w hbel0 (Nat.le_refl _) 57 _ hblk0 (by kernel_rfl) (by kernel_rfl) (by kernel_rfl) ?_; intro W3 hb3 hbox3 _)
      exact bodyPost_ret (results_cell_tmp Tryd.results48 _ W3 w.heap.size 57 _ _ _ rfl rfl hbox3 Tryd.underlying57 rfl (by kernel_rfl)) rfl ⟨rfl, hb3⟩
    · have h2' : (16 : Int) ≤ s.size := by omega
      have hL := fun (i c : Nat) (h : i + c ≤ s.size) (hc : c ≤ 6) W => LittleAt_any s i c h hs hc W
      have hL14 : ∀ W, Calls Tryd.prog 76 #[.string s, .int .i64 14, .int .i64 2] W fun e w' => e = .returned (.int .i64 (numAt s 14 2)) ∧ W = w' := hL 14 2 (by omega) (by omega)
      have hL1 : ∀ W, Calls Tryd.prog 76 #[.string s, .int .i64 1, .int .i64 1] W fun e w' => e = .returned (.int .i64 (numAt s 1 1)) ∧ W = w' := hL 1 1 (by omega) (by omega)
      have hL0 : ∀ W, Calls Tryd.prog 76 #[.string s, .int .i64 0, .int .i64 1] W fun e w' => e = .returned (.int .i64 (numAt s 0 1)) ∧ W = w' := hL 0 1 (by omega) (by omega)
      have hL2 : ∀ W, Calls Tryd.prog 76 #[.string s, .int .i64 2, .int .i64 2] W fun e w' => e = .returned (.int .i64 (numAt s 2 2)) ∧ W = w' := hL 2 2 (by omega) (by omega)
      have hL4 : ∀ W, Calls Tryd.prog 76 #[.string s, .int .i64 4, .int .i64 4] W fun e w' => e = .returned (.int .i64 (numAt s 4 4)) ∧ W = w' := hL 4 4 (by omega) (by omega)
      have hL8 : ∀ W, Calls Tryd.prog 76 #[.string s, .int .i64 8, .int .i64 4] W fun e w' => e = .returned (.int .i64 (numAt s 8 4)) ∧ W = w' := hL 8 4 (by omega) (by omega)
      have hL12 : ∀ W, Calls Tryd.prog 76 #[.string s, .int .i64 12, .int .i64 2] W fun e w' => e = .returned (.int .i64 (numAt s 12 2)) ∧ W = w' := hL 12 2 (by omega) (by omega)
      obtain ⟨b7, c7⟩ := numAt_bd2 s 14
      obtain ⟨N, hN⟩ := Int.eq_ofNat_of_zero_le b7
      have et : entTail s = s.extract (16 + N) s.size := by unfold entTail; rw [hN]; rfl
      have hO := fun W => refOf_any (entTail s) W (by rw [et, ByteArray.size_extract]; unfold maxLen; omega)
      have ho := ofR_size (entTail s) (by rw [et, ByteArray.size_extract]; omega)
      have ev : entOfV s = ⟨numAt s 0 1, numAt s 2 2, numAt s 4 4, numAt s 8 4, numAt s 12 2, numAt s 1 1 == 1, ofR (entTail s), s.extract 16 (16 + N)⟩ := by unfold entOfV; rw [hN]; rfl
      have ee : entOfE s = if (s.size : Int) < 16 + (N : Int) then 14 else if 1 < numAt s 1 1 then 3 else if ofE (entTail s) ≠ 0 then ofE (entTail s) else entE (entOfV s) := by unfold entOfE; rw [if_neg h1, if_neg h2, hN]
      rw [hN] at hL14 c7
      have w1 : IntKind.i64.wrap (16 + (N : Int)) = 16 + (N : Int) := IntWalk.i64_in _ (by omega)
      have w3 : 0 ≤ 16 + (N : Int) := by omega
      have w4 : (16 + (N : Int)).toNat = 16 + N := by omega
      have HL14 := Lib.hid hL14
      clear c7 hL hL14 b7 hN h1 h2
      by_cases h3 : (s.size : Int) < 16 + (N : Int)
      · have e1 : entOfE s = 14 := by rw [ee, if_pos h3]
        rw [entOfR_bad e1 (by decide), e1]
        clear e1 ev ee et hO ho hL0 hL1 hL2 hL4 hL8 hL12
        go_enter Tryd.func48, Tryd.ntmps48
        go_wp2_with (first | (go_at_call 76; (with_reducible refine (HL14.out _).mono ?_); rintro e w' ⟨rfl, rfl⟩) | (refine wpList_store_new rfl 57 (.tmp 2) (.tmp 25) rfl rfl w.heap.size #[.int .i64 0, .int .i64 0, .int .i64 0, .int .i64 0, .int .i64 0, .bool false, .int .i64 0, .int .i64 0, .int .i64 0, .int .i64 0, .string ⟨#[]⟩, .string ⟨#[]⟩, .string ⟨#[]⟩] rfl rfl w hbel0 (Nat.le_refl _) 57 _ hblk0 (by kernel_rfl) (by kernel_rfl) (by kernel_rfl) ?_; intro W3 hb3 hbox3 _))
        exact bodyPost_ret (results_cell_tmp Tryd.results48 _ W3 w.heap.size 57 _ _ _ rfl rfl hbox3 Tryd.underlying57 rfl (by kernel_rfl)) rfl ⟨rfl, hb3⟩
      · have h3' : 16 + (N : Int) ≤ (s.size : Int) := by omega
        obtain ⟨m, hm⟩ : ∃ m, m = numAt s 1 1 := ⟨_, rfl⟩
        have hm0 := (numAt_bd1 s 1).1
        rw [← hm] at hL1 hm0 ee ev
        have HL1 := Lib.hid hL1
        clear hL1 hm
        by_cases h4 : 1 < m
        · have e1 : entOfE s = 3 := by rw [ee, if_neg h3, if_pos h4]
          rw [entOfR_bad e1 (by decide), e1]
          clear e1 ev ee et hO ho hL0 hL2 hL4 hL8 hL12 h3
          go_enter Tryd.func48, Tryd.ntmps48
          go_wp2_with (first | (go_at_call 76; (with_reducible refine (HL14.out _).mono ?_); rintro e w' ⟨rfl, rfl⟩) | (go_at_call 76; (with_reducible refine (HL1.out _).mono ?_); rintro e w' ⟨rfl, rfl⟩) | (refine wpList_store_new rfl 57 (.tmp 2) (.tmp 30) rfl rfl w.heap.size #[.int .i64 0, .int .i64 0, .int .i64 0, .int .i64 0, .int .i64 0, .bool false, .int .i64 0, .int .i64 0, .int .i64 0, .int .i64 0, .string ⟨#[]⟩, .string ⟨#[]⟩, .string ⟨#[]⟩] rfl rfl w hbel0 (Nat.le_refl _) 57 _ hblk0 (by kernel_rfl) (by kernel_rfl) (by kernel_rfl) ?_; intro W3 hb3 hbox3 _))
          exact bodyPost_ret (results_cell_tmp Tryd.results48 _ W3 w.heap.size 57 _ _ _ rfl rfl hbox3 Tryd.underlying57 rfl (by kernel_rfl)) rfl ⟨rfl, hb3⟩
        · have h4' : m ≤ 1 := by omega
          rw [if_neg h3, if_neg h4] at ee
          rw [et] at hO
          obtain ⟨O, hOO⟩ : ∃ O, O = ofR (entTail s) := ⟨_, rfl⟩
          obtain ⟨eo, heo⟩ : ∃ e, e = ofE (entTail s) := ⟨_, rfl⟩
          rw [← et, ← hOO, ← heo, et] at hO
          rw [← hOO] at ev ho
          rw [← heo] at ee
          unfold opV at hO
          have HO := Lib.hid hO
          clear hO
          by_cases h5 : eo = 0
          · rw [if_neg (fun h => h h5)] at ee
            obtain ⟨V, hV⟩ : ∃ V, V = entOfV s := ⟨_, rfl⟩
            have ev' := hV.trans ev
            have q1 : numAt s 0 1 = V.k := by rw [ev']
            have q2 : numAt s 2 2 = V.t := by rw [ev']
            have q3 : numAt s 4 4 = V.p := by rw [ev']
            have q4 : numAt s 8 4 = V.x := by rw [ev']
            have q5 : numAt s 12 2 = V.g := by rw [ev']
            have q6 : (m == 1) = V.f := by rw [ev']
            have q7 : O = V.o := by rw [ev']
            have q8 : s.extract 16 (16 + N) = V.d := by rw [ev']
            rw [q1] at hL0
            rw [q2] at hL2
            rw [q3] at hL4
            rw [q4] at hL8
            rw [q5] at hL12
            have hE := fun W => refEntryErr_any V W (by rw [← q7]; exact ho.1) (by rw [← q7]; exact ho.2) (by rw [← q8, ByteArray.size_extract]; unfold maxLen; omega)
            rw [ent_eta] at hE
            rw [← hV] at ee
            have hr : entOfR s = if entOfE s = 0 then V else ent0 := by rw [hV]; rfl
            rw [hr, ee]
            obtain ⟨er, her⟩ : ∃ e, e = entE V := ⟨_, rfl⟩
            rw [← her] at hE ⊢
            obtain ⟨R, hR⟩ : ∃ R, R = if er = 0 then V else ent0 := ⟨_, rfl⟩
            rw [← hR]
            have HRR := Lib.hid hR
            have HL0 := Lib.hid hL0
            have HL2 := Lib.hid hL2
            have HL4 := Lib.hid hL4
            have HL8 := Lib.hid hL8
            have HL12 := Lib.hid hL12
            have HE := Lib.hid hE
            have Q6 := Lib.hid q6
            have Q8 := Lib.hid q8
            clear hR hL0 hL2 hL4 hL8 hL12 hE q1 q2 q3 q4 q5 q6 q8 ev ev' ee hV hr her h3 h4 et hOO heo ho
            subst q7
            subst h5
            go_enter Tryd.func48, Tryd.ntmps48
            go_wp2_with (first | (go_at_call 76; (with_reducible refine (HL14.out _).mono ?_); rintro e w' ⟨rfl, rfl⟩) | (go_at_call 76; (with_reducible refine (HL1.out _).mono ?_); rintro e w' ⟨rfl, rfl⟩) | (go_at_call 47; (with_reducible refine (HO.out _).mono ?_); rintro e W1 ⟨rfl, hbW1⟩; have hbw1 := bel_trans hbel0 hbW1; have hr1 := hblk0.below hbW1; have hn1 := Box.new W1 #[.int .i64 0, .int .i64 0, .int .i64 0, .int .i64 0, .string ⟨#[]⟩, .string ⟨#[]⟩] 27; have hlt1 : w.heap.size < W1.heap.size := hr1.lt; have hba1 := bel_alloc hbw1 (.cells #[.int .i64 0, .int .i64 0, .int .i64 0, .int .i64 0, .string ⟨#[]⟩, .string ⟨#[]⟩] 27); have HR1 := Lib.hid hr1; have HN1 := Lib.hid hn1; clear hr1 hn1) | (refine wpList_store_new rfl 27 (.tmp 6) (.tmp 37) rfl rfl W1.heap.size #[.int .i64 V.o.k, .int .i64 V.o.a, .int .i64 V.o.e, .int .i64 V.o.c, .string V.o.o, .string V.o.n] rfl rfl w hba1 (Nat.le_of_lt hlt1) 27 _ HN1.out (by kernel_rfl) (by kernel_rfl) (by kernel_rfl) ?_; intro W2 hb2 hbox2 hk2; have hr2 := hk2 _ _ _ (Nat.ne_of_lt hlt1) (HR1.out.old _); have HBOX2 := Lib.hid hbox2; have HR2 := Lib.hid hr2; clear hbox2 hr2 hk2))
            refine wp_region_atail 18 _ (.cells #[.int .i64 0, .int .i64 0, .int .i64 0, .int .i64 0, .int .i64 0, .bool false, .int .i64 0, .int .i64 0, .int .i64 0, .int .i64 0, .string ⟨#[]⟩, .string ⟨#[]⟩, .string ⟨#[]⟩] 57) (by kernel_rfl) (by kernel_rfl) rfl (by kernel_rfl) (fun ev X => by kernel_rfl) ?_
            apply Exists.intro
            have hx2 := HBOX2.out.cells
            have hlo2 := HBOX2.out.lt
            refine ⟨fun X hX => ?_, ?_⟩
            · obtain ⟨hcX, hfX⟩ := bcell hX
              have hsX : W1.heap.size < X.heap.size := Nat.lt_of_lt_of_le hlo2 hX.size
              simp only [List.take_succ_cons, List.take_zero]
              (repeat (go_big_quiet_step ((first | (go_at_call 76; (with_reducible exact Calls.reg_pure (HL0.out _))) | (go_at_call 76; (with_reducible exact Calls.reg_pure (HL2.out _))) | (go_at_call 76; (with_reducible exact Calls.reg_pure (HL4.out _))) | (go_at_call 76; (with_reducible exact Calls.reg_pure (HL8.out _))) | (go_at_call 76; (with_reducible exact Calls.reg_pure (HL12.out _)))))))
              exact wpQuiet_nil rfl
            · intro b1 W5 hbW5 hle hblk
              simp only [List.drop_succ_cons, List.drop_zero, Act.put, List.setIfInBounds_toArray, List.set_cons_succ, List.set_cons_zero]
              refine wpList_store_new rfl 57 _ _ rfl rfl b1 _ rfl rfl _ hbW5 hle 57 _ hblk (by kernel_rfl) rfl (by kernel_rfl) ?_
              intro W6 hb6 hbox6 _
              rw [Q6.out, Q8.out] at hbox6
              have hx6 := hbox6.cells
              have hr6 := HR2.out.below hb6
              have hbw6 := bel_trans hb2 hb6
              have hlt6 := hbox6.lt
              clear hbW5 hle hblk w1 w4
              apply wpList_nil
              have HBOX6 := Lib.hid hbox6
              have HR6 := Lib.hid hr6
              clear hbox6 hr6
              have e := HRR.out
              by_cases h0 : er = 0
              · rw [if_pos h0] at e
                have e := e.symm
                subst h0
                subst e
                go_wp2_with (first | (go_at_call 35; (with_reducible refine (HE.out _).mono ?_); rintro e W7 ⟨rfl, hbW7⟩; have hbw7 := bel_trans hbw6 hbW7; have hbox7 := HBOX6.out.below hbW7; have hx7 := hbox7.cells; have hr7 := HR6.out.below hbW7; have HR7 := Lib.hid hr7; clear hbox7 hr7) | (refine wpList_store_new rfl 57 (.tmp 2) (.tmp 67) rfl rfl w.heap.size #[.int .i64 V.k, .int .i64 V.t, .int .i64 V.p, .int .i64 V.x, .int .i64 V.g, .bool V.f, .int .i64 V.o.k, .int .i64 V.o.a, .int .i64 V.o.e, .int .i64 V.o.c, .string V.o.o, .string V.o.n, .string V.d] rfl rfl w hbw7 (Nat.le_refl _) 57 _ HR7.out (by kernel_rfl) (by kernel_rfl) (by kernel_rfl) ?_; intro W8 hb8 hbox8 _))
                exact bodyPost_ret (results_cell_tmp Tryd.results48 _ W8 w.heap.size 57 _ _ _ rfl rfl hbox8 Tryd.underlying57 rfl (by kernel_rfl)) rfl ⟨rfl, hb8⟩
              · rw [if_neg h0] at e
                have h0' : (er != 0) = true := by simp [h0]
                subst e
                clear h0
                go_wp2_with (first | (go_at_call 35; (with_reducible refine (HE.out _).mono ?_); rintro e W7 ⟨rfl, hbW7⟩; have hbw7 := bel_trans hbw6 hbW7; have hbox7 := HBOX6.out.below hbW7; have hx7 := hbox7.cells; have hr7 := HR6.out.below hbW7; have HR7 := Lib.hid hr7; clear hbox7 hr7) | (refine wpList_store_new rfl 57 (.tmp 2) (.tmp 65) rfl rfl w.heap.size #[.int .i64 0, .int .i64 0, .int .i64 0, .int .i64 0, .int .i64 0, .bool false, .int .i64 0, .int .i64 0, .int .i64 0, .int .i64 0, .string ⟨#[]⟩, .string ⟨#[]⟩, .string ⟨#[]⟩] rfl rfl w hbw7 (Nat.le_refl _) 57 _ HR7.out (by kernel_rfl) (by kernel_rfl) (by kernel_rfl) ?_; intro W8 hb8 hbox8 _))
                exact bodyPost_ret (results_cell_tmp Tryd.results48 _ W8 w.heap.size 57 _ _ _ rfl rfl hbox8 Tryd.underlying57 rfl (by kernel_rfl)) rfl ⟨rfl, hb8⟩
          · have e1 : entOfE s = eo := by rw [ee, if_pos h5]
            rw [entOfR_bad e1 h5, e1]
            have h5' : (eo != 0) = true := by simp [h5]
            clear e1 ev ee et ho hL0 hL2 hL4 hL8 hL12 h3 h4 h5 hOO heo
            go_enter Tryd.func48, Tryd.ntmps48
            go_wp2_with (first | (go_at_call 76; (with_reducible refine (HL14.out _).mono ?_); rintro e w' ⟨rfl, rfl⟩) | (go_at_call 76; (with_reducible refine (HL1.out _).mono ?_); rintro e w' ⟨rfl, rfl⟩) | (go_at_call 47; (with_reducible refine (HO.out _).mono ?_); rintro e W1 ⟨rfl, hbW1⟩; have hbw1 := bel_trans hbel0 hbW1; have hr1 := hblk0.below hbW1; have hn1 := Box.new W1 #[.int .i64 0, .int .i64 0, .int .i64 0, .int .i64 0, .string ⟨#[]⟩, .string ⟨#[]⟩] 27; have hlt1 : w.heap.size < W1.heap.size := hr1.lt; have hba1 := bel_alloc hbw1 (.cells #[.int .i64 0, .int .i64 0, .int .i64 0, .int .i64 0, .string ⟨#[]⟩, .string ⟨#[]⟩] 27); have HR1 := Lib.hid hr1; have HN1 := Lib.hid hn1; clear hr1 hn1) | (refine wpList_store_new rfl 27 (.tmp 6) (.tmp 37) rfl rfl W1.heap.size #[.int .i64 O.k, .int .i64 O.a, .int .i64 O.e, .int .i64 O.c, .string O.o, .string O.n] rfl rfl w hba1 (Nat.le_of_lt hlt1) 27 _ HN1.out (by kernel_rfl) (by kernel_rfl) (by kernel_rfl) ?_; intro W2 hb2 hbox2 hk2; have hr2 := hk2 _ _ _ (Nat.ne_of_lt hlt1) (HR1.out.old _); have HBOX2 := Lib.hid hbox2; have HR2 := Lib.hid hr2; clear hbox2 hr2 hk2) | (refine wpList_store_new rfl 57 (.tmp 2) (.tmp 41) rfl rfl w.heap.size #[.int .i64 0, .int .i64 0, .int .i64 0, .int .i64 0, .int .i64 0, .bool false, .int .i64 0, .int .i64 0, .int .i64 0, .int .i64 0, .string ⟨#[]⟩, .string ⟨#[]⟩, .string ⟨#[]⟩] rfl rfl w hb2 (Nat.le_refl _) 57 _ HR2.out (by kernel_rfl) (by kernel_rfl) (by kernel_rfl) ?_; intro W3 hb3 hbox3 _))
            exact bodyPost_ret (results_cell_tmp Tryd.results48 _ W3 w.heap.size 57 _ _ _ rfl rfl hbox3 Tryd.underlying57 rfl (by kernel_rfl)) rfl ⟨rfl, hb3⟩
end Go.Proofs.YtgmipogidmcilaaDoor
