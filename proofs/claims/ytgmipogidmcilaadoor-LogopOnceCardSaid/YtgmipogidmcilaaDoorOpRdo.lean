/-
  Chapter 21: redoing an operation; the numbers of pages.
-/
import Derived.Test.YtgmipogidmcilaaDoorOpAll2
import Derived.Test.YtgmipogidmcilaaDoorOp6
namespace Go.Proofs.YtgmipogidmcilaaDoor
set_option linter.unusedVariables false
set_option linter.unusedSimpArgs false
open Go.RowKit Go.Sort

theorem first2_z {a b : Int} : firstE [a, b] = 0 ↔ a = 0 ∧ b = 0 := by
  simp only [firstE]
  by_cases h : a = 0 <;> by_cases h' : b = 0 <;> simp [h, h']
theorem retSBI {k : IntKind} {a b : ByteArray} {c d : Bool} {e f : Int} (h : a = b) (h' : c = d) (h'' : e = f) : Ending.returned (.tuple #[.string a, .bool c, .int k e]) = .returned (.tuple #[.string b, .bool d, .int k f]) := by rw [h, h', h'']
theorem redo_bad {p : ByteArray} {plain : Bool} {n : Int} {x : Op} {er : Int} (h : firstE [pageE p, lsnE n, opE x] = er) (h0 : er ≠ 0) : redo p plain n x = (⟨#[]⟩, false, er) := by
  unfold redo
  have e : firstE [pageE p, lsnE' n, opE x] = er := h
  rw [e, if_pos h0]

set_option maxRecDepth 100000 in
set_option maxHeartbeats 2000000 in
theorem Redone_any (p : ByteArray) (plain : Bool) (n : Int) (x : Op) (w : World) (hp : p.size ≤ maxLen) (ho : x.o.size ≤ 3100) (hn : x.n.size ≤ 3100) :
    Calls Tryd.prog 37 #[.string p, .bool plain, .int .i64 n, opV x] w fun r w' => r = .returned (.tuple #[.string (redo p plain n x).1, .bool (redo p plain n x).2.1, .int .i64 (redo p plain n x).2.2]) ∧ Below w.heap.size w w' := by
  have hE := fun W => CheckOp_any x W ho hn
  have HP := Lib.hid (fun W => pageErr_any p W hp)
  have HN := Lib.hid (fun W => numberErr_any n W)
  by_cases h0 : firstE [pageE p, lsnE n, opE x] = 0
  · have hz := (firstE_zero _).1 h0
    have z1 : pageE p = 0 := hz _ (by simp)
    have z2 : lsnE n = 0 := hz _ (by simp)
    have z3 : opE x = 0 := hz _ (by simp)
    have hps := pageE_zero.1 z1
    have hok := (opE_iff x).1 z3
    have hin : inB n 1 2147483647 = true := (unl_zero (by decide)).1 z2
    have hin' := inB_true.1 hin
    have hval := redo_val (plain := plain) hps hin z3
    have hA := fun W => apply_any p x W hps hok
    have hL := fun W => lsnOf_any p W hps
    have hWL := fun W => withLSN_any (opDo p x) n W (opDo_size hps hok) (by omega) (by omega)
    have h1 : (firstE [pageE p, lsnE n, opE x] != 0) = false := by rw [h0]; rfl
    obtain ⟨q, hq⟩ : ∃ q, q = opDo p x := ⟨_, rfl⟩
    obtain ⟨f, hf⟩ : ∃ f, f = opFit p x := ⟨_, rfl⟩
    obtain ⟨m, hm⟩ : ∃ m, m = lsnL p := ⟨_, rfl⟩
    have hm' : lsnP p = m := hm.symm
    have hwl : lsnW q n = wLsn q n := rfl
    rw [hm', ← hq, ← hf, hwl] at hval
    rw [← hq, ← hf] at hA
    rw [← hm] at hL
    rw [← hq] at hWL
    rw [hval]
    obtain ⟨e1, he1⟩ : ∃ e, e = pageE p := ⟨_, rfl⟩
    obtain ⟨e2, he2⟩ : ∃ e, e = lsnE n := ⟨_, rfl⟩
    obtain ⟨e3, he3⟩ : ∃ e, e = opE x := ⟨_, rfl⟩
    have hP := HP.out
    have hN := HN.out
    rw [← he1] at hP h1
    rw [← he2] at hN h1
    rw [← he3] at hE h1
    have HE := Lib.hid hE
    have HP := Lib.hid hP
    have HN := Lib.hid hN
    have HA := Lib.hid hA
    have HL := Lib.hid hL
    have HWL := Lib.hid hWL
    clear hE hP hN hA hL hWL h0 hz z1 z2 z3 hps hok hin hin' hval hq hf hm hm' hwl he1 he2 he3
    unfold opV at *
    cases plain
    · by_cases hle : n ≤ m
      · go_enter Tryd.func37, Tryd.ntmps37
        go_wp2_with fail
        (refine wp_region_btail 6 (by kernel_rfl) (by kernel_rfl) ?_; simp only [List.take_succ_cons, List.take_zero, List.drop_succ_cons, List.drop_zero]; (repeat (go_big_quiet_step ((first | (go_at_call 53; exact Calls.reg_pure (HP.out _)) | (go_at_call 73; exact Calls.reg_pure (HN.out _)) | (go_at_call 21; (with_reducible exact Calls.regrown_of (HE.out _))))))); (with_reducible refine wpQuiet_nil ?_); intro W1 hreg; have hbW1 := below_of_reg hreg; clear hreg; obtain ⟨hcW1, hfW1⟩ := bcell hbW1)
        have hsW1 : w.heap.size < W1.heap.size := by have h := hbW1.size; simp at h; omega
        go_wp2_with (first | (go_at_call 52; refine (logop_first_list [_, _, _] W1 (by simp)).mono ?_; rintro e w' ⟨rfl, rfl⟩) | (go_at_call 74; (with_reducible refine (HL.out _).mono ?_); rintro e W2 ⟨rfl, hbW2⟩; obtain ⟨hcW2, hfW2⟩ := bcell hbW2))
        go_ret3
        exact ⟨retSBI rfl rfl rfl, by (repeat (first | assumption | exact Below.refl _ _ | refine bel_drewN ?_ _ | refine bel_alloc ?_ _ | refine bel_trans ?_ (by assumption) | refine Below.trans ?_ (by assumption)))⟩
      · cases f
        all_goals
          go_enter Tryd.func37, Tryd.ntmps37
          go_wp2_with fail
          (refine wp_region_btail 6 (by kernel_rfl) (by kernel_rfl) ?_; simp only [List.take_succ_cons, List.take_zero, List.drop_succ_cons, List.drop_zero]; (repeat (go_big_quiet_step ((first | (go_at_call 53; exact Calls.reg_pure (HP.out _)) | (go_at_call 73; exact Calls.reg_pure (HN.out _)) | (go_at_call 21; (with_reducible exact Calls.regrown_of (HE.out _))))))); (with_reducible refine wpQuiet_nil ?_); intro W1 hreg; have hbW1 := below_of_reg hreg; clear hreg; obtain ⟨hcW1, hfW1⟩ := bcell hbW1)
          have hsW1 : w.heap.size < W1.heap.size := by have h := hbW1.size; simp at h; omega
          go_wp2_with (first | (go_at_call 52; refine (logop_first_list [_, _, _] W1 (by simp)).mono ?_; rintro e w' ⟨rfl, rfl⟩) | ((go_at_call 74; (with_reducible refine (HL.out _).mono ?_); rintro e W2 ⟨rfl, hbW2⟩; obtain ⟨hcW2, hfW2⟩ := bcell hbW2); have hsW2 : w.heap.size < W2.heap.size := (by have h := hbW2.size; (try simp at h); omega)) | (go_at_call 55; (with_reducible refine (HA.out _).mono ?_); rintro e W3 ⟨rfl, hbW3⟩; obtain ⟨hcW3, hfW3⟩ := bcell hbW3) | (go_at_call 75; (with_reducible refine (HWL.out _).mono ?_); rintro e W4 ⟨rfl, hbW4⟩; obtain ⟨hcW4, hfW4⟩ := bcell hbW4))
          go_ret3
          exact ⟨retSBI rfl rfl rfl, by (repeat (first | assumption | exact Below.refl _ _ | refine bel_drewN ?_ _ | refine bel_alloc ?_ _ | refine bel_trans ?_ (by assumption) | refine Below.trans ?_ (by assumption)))⟩
    · obtain ⟨d, hd⟩ : ∃ d, d = (!(bl q == bl p)) := ⟨_, rfl⟩
      rw [← hd, if_pos rfl]
      have HD := Lib.hid hd
      clear hd
      by_cases hk : x.k = 2 ∨ x.k = 3
      · rw [if_pos hk]
        cases hk2 : (x.k == 2)
        · have hk3 : (x.k == 3) = true := by
            rcases hk with h | h
            · rw [h] at hk2; cases hk2
            · rw [h]; rfl
          clear hk
          go_enter Tryd.func37, Tryd.ntmps37
          go_wp2_with fail
          (refine wp_region_btail 6 (by kernel_rfl) (by kernel_rfl) ?_; simp only [List.take_succ_cons, List.take_zero, List.drop_succ_cons, List.drop_zero]; (repeat (go_big_quiet_step ((first | (go_at_call 53; exact Calls.reg_pure (HP.out _)) | (go_at_call 73; exact Calls.reg_pure (HN.out _)) | (go_at_call 21; (with_reducible exact Calls.regrown_of (HE.out _))))))); (with_reducible refine wpQuiet_nil ?_); intro W1 hreg; have hbW1 := below_of_reg hreg; clear hreg; obtain ⟨hcW1, hfW1⟩ := bcell hbW1)
          have hsW1 : w.heap.size < W1.heap.size := by have h := hbW1.size; simp at h; omega
          go_wp2_with (first | (go_at_call 52; refine (logop_first_list [_, _, _] W1 (by simp)).mono ?_; rintro e w' ⟨rfl, rfl⟩) | (go_at_call 55; (with_reducible refine (HA.out _).mono ?_); rintro e W3 ⟨rfl, hbW3⟩; obtain ⟨hcW3, hfW3⟩ := bcell hbW3))
          go_ret3
          exact ⟨retSBI rfl rfl rfl, by (repeat (first | assumption | exact Below.refl _ _ | refine bel_drewN ?_ _ | refine bel_alloc ?_ _ | refine bel_trans ?_ (by assumption) | refine Below.trans ?_ (by assumption)))⟩
        · clear hk
          go_enter Tryd.func37, Tryd.ntmps37
          go_wp2_with fail
          (refine wp_region_btail 6 (by kernel_rfl) (by kernel_rfl) ?_; simp only [List.take_succ_cons, List.take_zero, List.drop_succ_cons, List.drop_zero]; (repeat (go_big_quiet_step ((first | (go_at_call 53; exact Calls.reg_pure (HP.out _)) | (go_at_call 73; exact Calls.reg_pure (HN.out _)) | (go_at_call 21; (with_reducible exact Calls.regrown_of (HE.out _))))))); (with_reducible refine wpQuiet_nil ?_); intro W1 hreg; have hbW1 := below_of_reg hreg; clear hreg; obtain ⟨hcW1, hfW1⟩ := bcell hbW1)
          have hsW1 : w.heap.size < W1.heap.size := by have h := hbW1.size; simp at h; omega
          go_wp2_with (first | (go_at_call 52; refine (logop_first_list [_, _, _] W1 (by simp)).mono ?_; rintro e w' ⟨rfl, rfl⟩) | (go_at_call 55; (with_reducible refine (HA.out _).mono ?_); rintro e W3 ⟨rfl, hbW3⟩; obtain ⟨hcW3, hfW3⟩ := bcell hbW3))
          go_ret3
          exact ⟨retSBI rfl rfl rfl, by (repeat (first | assumption | exact Below.refl _ _ | refine bel_drewN ?_ _ | refine bel_alloc ?_ _ | refine bel_trans ?_ (by assumption) | refine Below.trans ?_ (by assumption)))⟩
      · rw [if_neg hk]
        have hk2 : (x.k == 2) = false := by rw [beq_eq_false_iff_ne]; exact fun h => hk (.inl h)
        have hk3 : (x.k == 3) = false := by rw [beq_eq_false_iff_ne]; exact fun h => hk (.inr h)
        clear hk
        go_enter Tryd.func37, Tryd.ntmps37
        go_wp2_with fail
        (refine wp_region_btail 6 (by kernel_rfl) (by kernel_rfl) ?_; simp only [List.take_succ_cons, List.take_zero, List.drop_succ_cons, List.drop_zero]; (repeat (go_big_quiet_step ((first | (go_at_call 53; exact Calls.reg_pure (HP.out _)) | (go_at_call 73; exact Calls.reg_pure (HN.out _)) | (go_at_call 21; (with_reducible exact Calls.regrown_of (HE.out _))))))); (with_reducible refine wpQuiet_nil ?_); intro W1 hreg; have hbW1 := below_of_reg hreg; clear hreg; obtain ⟨hcW1, hfW1⟩ := bcell hbW1)
        have hsW1 : w.heap.size < W1.heap.size := by have h := hbW1.size; simp at h; omega
        go_wp2_with (first | (go_at_call 52; refine (logop_first_list [_, _, _] W1 (by simp)).mono ?_; rintro e w' ⟨rfl, rfl⟩) | (go_at_call 55; (with_reducible refine (HA.out _).mono ?_); rintro e W3 ⟨rfl, hbW3⟩; obtain ⟨hcW3, hfW3⟩ := bcell hbW3))
        go_ret3
        exact ⟨retSBI rfl (by rw [HD.out, ← toList_eq, ← toList_eq]) rfl, by (repeat (first | assumption | exact Below.refl _ _ | refine bel_drewN ?_ _ | refine bel_alloc ?_ _ | refine bel_trans ?_ (by assumption) | refine Below.trans ?_ (by assumption)))⟩
  · obtain ⟨er, her⟩ : ∃ e, firstE [pageE p, lsnE n, opE x] = e := ⟨_, rfl⟩
    have hne : er ≠ 0 := fun h => h0 (her.trans h)
    rw [redo_bad her hne]
    obtain ⟨e1, he1⟩ : ∃ e, e = pageE p := ⟨_, rfl⟩
    obtain ⟨e2, he2⟩ : ∃ e, e = lsnE n := ⟨_, rfl⟩
    obtain ⟨e3, he3⟩ : ∃ e, e = opE x := ⟨_, rfl⟩
    have hP := HP.out
    have hN := HN.out
    rw [← he1] at hP her
    rw [← he2] at hN her
    rw [← he3] at hE her
    have h1 : (firstE [e1, e2, e3] != 0) = true := by rw [her]; simp [hne]
    have HE := Lib.hid hE
    have HP := Lib.hid hP
    have HN := Lib.hid hN
    have HER := Lib.hid her
    clear hE hP hN h0 her hne he1 he2 he3
    unfold opV at *
    go_enter Tryd.func37, Tryd.ntmps37
    go_wp2_with fail
    (refine wp_region_btail 6 (by kernel_rfl) (by kernel_rfl) ?_; simp only [List.take_succ_cons, List.take_zero, List.drop_succ_cons, List.drop_zero]; (repeat (go_big_quiet_step ((first | (go_at_call 53; exact Calls.reg_pure (HP.out _)) | (go_at_call 73; exact Calls.reg_pure (HN.out _)) | (go_at_call 21; (with_reducible exact Calls.regrown_of (HE.out _))))))); (with_reducible refine wpQuiet_nil ?_); intro W1 hreg; have hbW1 := below_of_reg hreg; clear hreg; obtain ⟨hcW1, hfW1⟩ := bcell hbW1)
    go_wp2_with (first | (go_at_call 52; refine (logop_first_list [_, _, _] W1 (by simp)).mono ?_; rintro e w' ⟨rfl, rfl⟩))
    go_ret3
    exact ⟨retSBI rfl rfl HER.out, by (repeat (first | assumption | exact Below.refl _ _ | refine bel_drewN ?_ _ | refine bel_alloc ?_ _ | refine bel_trans ?_ (by assumption) | refine Below.trans ?_ (by assumption)))⟩


set_option maxRecDepth 100000 in
set_option maxHeartbeats 2000000 in
theorem refRedone_any (p : ByteArray) (plain : Bool) (n : Int) (x : Op) (w : World) (hp : p.size ≤ maxLen) (ho : x.o.size ≤ 3100) (hn : x.n.size ≤ 3100) :
    Calls Tryd.prog 38 #[.string p, .bool plain, .int .i64 n, opV x] w fun r w' => r = .returned (.tuple #[.string (redo p plain n x).1, .bool (redo p plain n x).2.1, .int .i64 (redo p plain n x).2.2]) ∧ Below w.heap.size w w' := by
  have hE := fun W => refOpErr_any x W ho hn
  have hP := fun W => PageErr_any p W hp
  have hN := fun W => NumberErr_any n W
  by_cases z1 : pageE p = 0
  · rw [z1] at hP
    have HP := Lib.hid hP
    by_cases z2 : lsnE n = 0
    · rw [z2] at hN
      have HN := Lib.hid hN
      by_cases z3 : opE x = 0
      · rw [z3] at hE
        have HE := Lib.hid hE
        have hps := pageE_zero.1 z1
        have hok := (opE_iff x).1 z3
        have hin : inB n 1 2147483647 = true := (unl_zero (by decide)).1 z2
        have hin' := inB_true.1 hin
        have hval := redo_val (plain := plain) hps hin z3
        have hD := fun W => refApplied_any p x W hps hok
        have hF := fun W => Fits_any p x W hps hok
        have hL := fun W => refLSN_any p W hps
        have hWL := fun W => refWithLSN_any (opDo p x) n W (opDo_size hps hok) (by omega) (by omega)
        obtain ⟨q, hq⟩ : ∃ q, q = opDo p x := ⟨_, rfl⟩
        obtain ⟨f, hf⟩ : ∃ f, f = opFit p x := ⟨_, rfl⟩
        obtain ⟨m, hm⟩ : ∃ m, m = lsnL p := ⟨_, rfl⟩
        have hm' : lsnP p = m := hm.symm
        have hwl : lsnW q n = wLsn q n := rfl
        rw [hm', ← hq, ← hf, hwl] at hval
        rw [← hq] at hD
        rw [← hf] at hF
        rw [← hm] at hL
        rw [← hq] at hWL
        rw [hval]
        have HD := Lib.hid hD
        have HF := Lib.hid hF
        have HL := Lib.hid hL
        have HWL := Lib.hid hWL
        clear hE hP hN hD hF hL hWL z1 z2 z3 hps hok hin hin' hval hq hf hm hm' hwl
        unfold opV at *
        cases plain
        · by_cases hle : n ≤ m
          · have hle' : decide (m ≥ n) = true := decide_eq_true hle
            go_enter Tryd.func38, Tryd.ntmps38
            go_wp2_with (first
              | (go_at_call 19; (with_reducible refine (HP.out _).mono ?_); rintro e w' ⟨rfl, rfl⟩)
              | (go_at_call 49; (with_reducible refine (HN.out _).mono ?_); rintro e w' ⟨rfl, rfl⟩)
              | ((go_at_call 23; (with_reducible refine (HE.out _).mono ?_); rintro e W1 ⟨rfl, hbW1⟩; obtain ⟨hcW1, hfW1⟩ := bcell hbW1); have hsW1 : w.heap.size < W1.heap.size := (by have h := hbW1.size; (try simp at h); omega))
              | ((go_at_call 56; (with_reducible refine (HD.out _).mono ?_); rintro e W3 ⟨rfl, hbW3⟩; obtain ⟨hcW3, hfW3⟩ := bcell hbW3); have hsW3 : w.heap.size < W3.heap.size := (by have h := hbW3.size; (try simp at h); omega))
              | (go_at_call 41; (with_reducible refine (HL.out _).mono ?_); rintro e w' ⟨rfl, rfl⟩)
              | ((go_at_call 30; (with_reducible refine (HF.out _).mono ?_); rintro e W4 ⟨rfl, hbW4⟩; obtain ⟨hcW4, hfW4⟩ := bcell hbW4); have hsW4 : w.heap.size < W4.heap.size := (by have h := hbW4.size; (try simp at h); omega))
              | (go_at_call 43; (with_reducible refine (HWL.out _).mono ?_); rintro e W5 ⟨rfl, hbW5⟩; obtain ⟨hcW5, hfW5⟩ := bcell hbW5))
            go_ret3
            exact ⟨retSBI rfl rfl rfl, by (repeat (first | assumption | exact Below.refl _ _ | refine bel_drewN ?_ _ | refine bel_alloc ?_ _ | refine bel_trans ?_ (by assumption) | refine Below.trans ?_ (by assumption)))⟩
          · cases f
            all_goals
              go_enter Tryd.func38, Tryd.ntmps38
              go_wp2_with (first
                | (go_at_call 19; (with_reducible refine (HP.out _).mono ?_); rintro e w' ⟨rfl, rfl⟩)
                | (go_at_call 49; (with_reducible refine (HN.out _).mono ?_); rintro e w' ⟨rfl, rfl⟩)
                | ((go_at_call 23; (with_reducible refine (HE.out _).mono ?_); rintro e W1 ⟨rfl, hbW1⟩; obtain ⟨hcW1, hfW1⟩ := bcell hbW1); have hsW1 : w.heap.size < W1.heap.size := (by have h := hbW1.size; (try simp at h); omega))
                | ((go_at_call 56; (with_reducible refine (HD.out _).mono ?_); rintro e W3 ⟨rfl, hbW3⟩; obtain ⟨hcW3, hfW3⟩ := bcell hbW3); have hsW3 : w.heap.size < W3.heap.size := (by have h := hbW3.size; (try simp at h); omega))
                | (go_at_call 41; (with_reducible refine (HL.out _).mono ?_); rintro e w' ⟨rfl, rfl⟩)
                | ((go_at_call 30; (with_reducible refine (HF.out _).mono ?_); rintro e W4 ⟨rfl, hbW4⟩; obtain ⟨hcW4, hfW4⟩ := bcell hbW4); have hsW4 : w.heap.size < W4.heap.size := (by have h := hbW4.size; (try simp at h); omega))
                | (go_at_call 43; (with_reducible refine (HWL.out _).mono ?_); rintro e W5 ⟨rfl, hbW5⟩; obtain ⟨hcW5, hfW5⟩ := bcell hbW5))
              go_ret3
              exact ⟨retSBI rfl rfl rfl, by (repeat (first | assumption | exact Below.refl _ _ | refine bel_drewN ?_ _ | refine bel_alloc ?_ _ | refine bel_trans ?_ (by assumption) | refine Below.trans ?_ (by assumption)))⟩
        · obtain ⟨d, hd⟩ : ∃ d, d = (!(bl q == bl p)) := ⟨_, rfl⟩
          rw [← hd, if_pos rfl]
          have HDD := Lib.hid hd
          clear hd
          by_cases hk : x.k = 2 ∨ x.k = 3
          · rw [if_pos hk]
            cases hk2 : (x.k == 2)
            · have hk3 : (x.k == 3) = true := by
                rcases hk with h | h
                · rw [h] at hk2; cases hk2
                · rw [h]; rfl
              clear hk
              go_enter Tryd.func38, Tryd.ntmps38
              go_wp2_with (first
                | (go_at_call 19; (with_reducible refine (HP.out _).mono ?_); rintro e w' ⟨rfl, rfl⟩)
                | (go_at_call 49; (with_reducible refine (HN.out _).mono ?_); rintro e w' ⟨rfl, rfl⟩)
                | ((go_at_call 23; (with_reducible refine (HE.out _).mono ?_); rintro e W1 ⟨rfl, hbW1⟩; obtain ⟨hcW1, hfW1⟩ := bcell hbW1); have hsW1 : w.heap.size < W1.heap.size := (by have h := hbW1.size; (try simp at h); omega))
                | ((go_at_call 56; (with_reducible refine (HD.out _).mono ?_); rintro e W3 ⟨rfl, hbW3⟩; obtain ⟨hcW3, hfW3⟩ := bcell hbW3); have hsW3 : w.heap.size < W3.heap.size := (by have h := hbW3.size; (try simp at h); omega))
                | (go_at_call 41; (with_reducible refine (HL.out _).mono ?_); rintro e w' ⟨rfl, rfl⟩)
                | ((go_at_call 30; (with_reducible refine (HF.out _).mono ?_); rintro e W4 ⟨rfl, hbW4⟩; obtain ⟨hcW4, hfW4⟩ := bcell hbW4); have hsW4 : w.heap.size < W4.heap.size := (by have h := hbW4.size; (try simp at h); omega))
                | (go_at_call 43; (with_reducible refine (HWL.out _).mono ?_); rintro e W5 ⟨rfl, hbW5⟩; obtain ⟨hcW5, hfW5⟩ := bcell hbW5))
              go_ret3
              exact ⟨retSBI rfl rfl rfl, by (repeat (first | assumption | exact Below.refl _ _ | refine bel_drewN ?_ _ | refine bel_alloc ?_ _ | refine bel_trans ?_ (by assumption) | refine Below.trans ?_ (by assumption)))⟩
            · clear hk
              go_enter Tryd.func38, Tryd.ntmps38
              go_wp2_with (first
                | (go_at_call 19; (with_reducible refine (HP.out _).mono ?_); rintro e w' ⟨rfl, rfl⟩)
                | (go_at_call 49; (with_reducible refine (HN.out _).mono ?_); rintro e w' ⟨rfl, rfl⟩)
                | ((go_at_call 23; (with_reducible refine (HE.out _).mono ?_); rintro e W1 ⟨rfl, hbW1⟩; obtain ⟨hcW1, hfW1⟩ := bcell hbW1); have hsW1 : w.heap.size < W1.heap.size := (by have h := hbW1.size; (try simp at h); omega))
                | ((go_at_call 56; (with_reducible refine (HD.out _).mono ?_); rintro e W3 ⟨rfl, hbW3⟩; obtain ⟨hcW3, hfW3⟩ := bcell hbW3); have hsW3 : w.heap.size < W3.heap.size := (by have h := hbW3.size; (try simp at h); omega))
                | (go_at_call 41; (with_reducible refine (HL.out _).mono ?_); rintro e w' ⟨rfl, rfl⟩)
                | ((go_at_call 30; (with_reducible refine (HF.out _).mono ?_); rintro e W4 ⟨rfl, hbW4⟩; obtain ⟨hcW4, hfW4⟩ := bcell hbW4); have hsW4 : w.heap.size < W4.heap.size := (by have h := hbW4.size; (try simp at h); omega))
                | (go_at_call 43; (with_reducible refine (HWL.out _).mono ?_); rintro e W5 ⟨rfl, hbW5⟩; obtain ⟨hcW5, hfW5⟩ := bcell hbW5))
              go_ret3
              exact ⟨retSBI rfl rfl rfl, by (repeat (first | assumption | exact Below.refl _ _ | refine bel_drewN ?_ _ | refine bel_alloc ?_ _ | refine bel_trans ?_ (by assumption) | refine Below.trans ?_ (by assumption)))⟩
          · rw [if_neg hk]
            have hk2 : (x.k == 2) = false := by rw [beq_eq_false_iff_ne]; exact fun h => hk (.inl h)
            have hk3 : (x.k == 3) = false := by rw [beq_eq_false_iff_ne]; exact fun h => hk (.inr h)
            clear hk
            go_enter Tryd.func38, Tryd.ntmps38
            go_wp2_with (first
              | (go_at_call 19; (with_reducible refine (HP.out _).mono ?_); rintro e w' ⟨rfl, rfl⟩)
              | (go_at_call 49; (with_reducible refine (HN.out _).mono ?_); rintro e w' ⟨rfl, rfl⟩)
              | ((go_at_call 23; (with_reducible refine (HE.out _).mono ?_); rintro e W1 ⟨rfl, hbW1⟩; obtain ⟨hcW1, hfW1⟩ := bcell hbW1); have hsW1 : w.heap.size < W1.heap.size := (by have h := hbW1.size; (try simp at h); omega))
              | ((go_at_call 56; (with_reducible refine (HD.out _).mono ?_); rintro e W3 ⟨rfl, hbW3⟩; obtain ⟨hcW3, hfW3⟩ := bcell hbW3); have hsW3 : w.heap.size < W3.heap.size := (by have h := hbW3.size; (try simp at h); omega))
              | (go_at_call 41; (with_reducible refine (HL.out _).mono ?_); rintro e w' ⟨rfl, rfl⟩)
              | ((go_at_call 30; (with_reducible refine (HF.out _).mono ?_); rintro e W4 ⟨rfl, hbW4⟩; obtain ⟨hcW4, hfW4⟩ := bcell hbW4); have hsW4 : w.heap.size < W4.heap.size := (by have h := hbW4.size; (try simp at h); omega))
              | (go_at_call 43; (with_reducible refine (HWL.out _).mono ?_); rintro e W5 ⟨rfl, hbW5⟩; obtain ⟨hcW5, hfW5⟩ := bcell hbW5))
            go_ret3
            exact ⟨retSBI rfl (by rw [HDD.out, ← toList_eq, ← toList_eq]) rfl, by (repeat (first | assumption | exact Below.refl _ _ | refine bel_drewN ?_ _ | refine bel_alloc ?_ _ | refine bel_trans ?_ (by assumption) | refine Below.trans ?_ (by assumption)))⟩
      · have hval := redo_bad (plain := plain) (p := p) (n := n) (x := x) (er := opE x) (by rw [z1, z2]; simp [firstE, z3]) z3
        rw [hval]
        obtain ⟨e3, he3⟩ : ∃ e, e = opE x := ⟨_, rfl⟩
        rw [← he3] at hE z3 ⊢
        have hz : (e3 != 0) = true := by simp [z3]
        have HE := Lib.hid hE
        clear hE hP hN z1 z2 z3 hval he3
        unfold opV at *
        go_enter Tryd.func38, Tryd.ntmps38
        go_wp2_with (first
          | (go_at_call 19; (with_reducible refine (HP.out _).mono ?_); rintro e w' ⟨rfl, rfl⟩)
          | (go_at_call 49; (with_reducible refine (HN.out _).mono ?_); rintro e w' ⟨rfl, rfl⟩)
          | ((go_at_call 23; (with_reducible refine (HE.out _).mono ?_); rintro e W1 ⟨rfl, hbW1⟩; obtain ⟨hcW1, hfW1⟩ := bcell hbW1); have hsW1 : w.heap.size < W1.heap.size := (by have h := hbW1.size; (try simp at h); omega))
          | ((go_at_call 56; (with_reducible refine (HD.out _).mono ?_); rintro e W3 ⟨rfl, hbW3⟩; obtain ⟨hcW3, hfW3⟩ := bcell hbW3); have hsW3 : w.heap.size < W3.heap.size := (by have h := hbW3.size; (try simp at h); omega))
          | (go_at_call 41; (with_reducible refine (HL.out _).mono ?_); rintro e w' ⟨rfl, rfl⟩)
          | ((go_at_call 30; (with_reducible refine (HF.out _).mono ?_); rintro e W4 ⟨rfl, hbW4⟩; obtain ⟨hcW4, hfW4⟩ := bcell hbW4); have hsW4 : w.heap.size < W4.heap.size := (by have h := hbW4.size; (try simp at h); omega))
          | (go_at_call 43; (with_reducible refine (HWL.out _).mono ?_); rintro e W5 ⟨rfl, hbW5⟩; obtain ⟨hcW5, hfW5⟩ := bcell hbW5))
        go_ret3
        exact ⟨retSBI rfl rfl rfl, by (repeat (first | assumption | exact Below.refl _ _ | refine bel_drewN ?_ _ | refine bel_alloc ?_ _ | refine bel_trans ?_ (by assumption) | refine Below.trans ?_ (by assumption)))⟩
    · have hval := redo_bad (plain := plain) (p := p) (n := n) (x := x) (er := lsnE n) (by rw [z1]; simp [firstE, z2]) z2
      rw [hval]
      obtain ⟨e2, he2⟩ : ∃ e, e = lsnE n := ⟨_, rfl⟩
      rw [← he2] at hN z2 ⊢
      have hz : (e2 != 0) = true := by simp [z2]
      have HN := Lib.hid hN
      clear hE hP hN z1 z2 hval he2
      unfold opV at *
      go_enter Tryd.func38, Tryd.ntmps38
      go_wp2_with (first
        | (go_at_call 19; (with_reducible refine (HP.out _).mono ?_); rintro e w' ⟨rfl, rfl⟩)
        | (go_at_call 49; (with_reducible refine (HN.out _).mono ?_); rintro e w' ⟨rfl, rfl⟩)
        | ((go_at_call 23; (with_reducible refine (HE.out _).mono ?_); rintro e W1 ⟨rfl, hbW1⟩; obtain ⟨hcW1, hfW1⟩ := bcell hbW1); have hsW1 : w.heap.size < W1.heap.size := (by have h := hbW1.size; (try simp at h); omega))
        | ((go_at_call 56; (with_reducible refine (HD.out _).mono ?_); rintro e W3 ⟨rfl, hbW3⟩; obtain ⟨hcW3, hfW3⟩ := bcell hbW3); have hsW3 : w.heap.size < W3.heap.size := (by have h := hbW3.size; (try simp at h); omega))
        | (go_at_call 41; (with_reducible refine (HL.out _).mono ?_); rintro e w' ⟨rfl, rfl⟩)
        | ((go_at_call 30; (with_reducible refine (HF.out _).mono ?_); rintro e W4 ⟨rfl, hbW4⟩; obtain ⟨hcW4, hfW4⟩ := bcell hbW4); have hsW4 : w.heap.size < W4.heap.size := (by have h := hbW4.size; (try simp at h); omega))
        | (go_at_call 43; (with_reducible refine (HWL.out _).mono ?_); rintro e W5 ⟨rfl, hbW5⟩; obtain ⟨hcW5, hfW5⟩ := bcell hbW5))
      go_ret3
      exact ⟨retSBI rfl rfl rfl, by (repeat (first | assumption | exact Below.refl _ _ | refine bel_drewN ?_ _ | refine bel_alloc ?_ _ | refine bel_trans ?_ (by assumption) | refine Below.trans ?_ (by assumption)))⟩
  · have hval := redo_bad (plain := plain) (p := p) (n := n) (x := x) (er := pageE p) (by simp [firstE, z1]) z1
    rw [hval]
    obtain ⟨e1, he1⟩ : ∃ e, e = pageE p := ⟨_, rfl⟩
    rw [← he1] at hP z1 ⊢
    have hz : (e1 != 0) = true := by simp [z1]
    have HP := Lib.hid hP
    clear hE hP hN z1 hval he1
    unfold opV at *
    go_enter Tryd.func38, Tryd.ntmps38
    go_wp2_with (first
      | (go_at_call 19; (with_reducible refine (HP.out _).mono ?_); rintro e w' ⟨rfl, rfl⟩)
      | (go_at_call 49; (with_reducible refine (HN.out _).mono ?_); rintro e w' ⟨rfl, rfl⟩)
      | ((go_at_call 23; (with_reducible refine (HE.out _).mono ?_); rintro e W1 ⟨rfl, hbW1⟩; obtain ⟨hcW1, hfW1⟩ := bcell hbW1); have hsW1 : w.heap.size < W1.heap.size := (by have h := hbW1.size; (try simp at h); omega))
      | ((go_at_call 56; (with_reducible refine (HD.out _).mono ?_); rintro e W3 ⟨rfl, hbW3⟩; obtain ⟨hcW3, hfW3⟩ := bcell hbW3); have hsW3 : w.heap.size < W3.heap.size := (by have h := hbW3.size; (try simp at h); omega))
      | (go_at_call 41; (with_reducible refine (HL.out _).mono ?_); rintro e w' ⟨rfl, rfl⟩)
      | ((go_at_call 30; (with_reducible refine (HF.out _).mono ?_); rintro e W4 ⟨rfl, hbW4⟩; obtain ⟨hcW4, hfW4⟩ := bcell hbW4); have hsW4 : w.heap.size < W4.heap.size := (by have h := hbW4.size; (try simp at h); omega))
      | (go_at_call 43; (with_reducible refine (HWL.out _).mono ?_); rintro e W5 ⟨rfl, hbW5⟩; obtain ⟨hcW5, hfW5⟩ := bcell hbW5))
    go_ret3
    exact ⟨retSBI rfl rfl rfl, by (repeat (first | assumption | exact Below.refl _ _ | refine bel_drewN ?_ _ | refine bel_alloc ?_ _ | refine bel_trans ?_ (by assumption) | refine Below.trans ?_ (by assumption)))⟩

theorem PageLSN_any (p : ByteArray) (w : World) (hp : p.size ≤ maxLen) :
    Calls Tryd.prog 39 #[.string p] w fun r w' => r = .returned (.tuple #[.int .i64 (if pageE p = 0 then lsnL p else 0), .int .i64 (pageE p)]) ∧ Below w.heap.size w w' := by
  have hP := fun W => pageErr_any p W hp
  by_cases z1 : pageE p = 0
  · have hL := fun W => lsnOf_any p W (pageE_zero.1 z1)
    rw [z1] at hP ⊢
    rw [if_pos rfl]
    have HP := Lib.hid hP
    clear hP z1
    go_enter Tryd.func39, Tryd.ntmps39
    go_wp2_with (first | (go_at_call 53; (with_reducible refine (HP.out _).mono ?_); rintro e w' ⟨rfl, rfl⟩) | (go_at_call 74; (with_reducible refine (hL _).mono ?_); rintro e W1 ⟨rfl, hbW1⟩; obtain ⟨hcW1, hfW1⟩ := bcell hbW1))
    go_ret2
    exact ⟨rfl, by (repeat (first | assumption | exact Below.refl _ _ | refine bel_drewN ?_ _ | refine bel_alloc ?_ _ | refine bel_trans ?_ (by assumption) | refine Below.trans ?_ (by assumption)))⟩
  · rw [if_neg z1]
    obtain ⟨e1, he1⟩ : ∃ e, e = pageE p := ⟨_, rfl⟩
    rw [← he1] at hP z1 ⊢
    have hz : (e1 != 0) = true := by simp [z1]
    have HP := Lib.hid hP
    clear hP z1 he1
    go_enter Tryd.func39, Tryd.ntmps39
    go_wp2_with (first | (go_at_call 53; (with_reducible refine (HP.out _).mono ?_); rintro e w' ⟨rfl, rfl⟩))
    go_ret2
    exact ⟨rfl, by (repeat (first | assumption | exact Below.refl _ _ | refine bel_drewN ?_ _ | refine bel_alloc ?_ _ | refine bel_trans ?_ (by assumption) | refine Below.trans ?_ (by assumption)))⟩
def wlE (p : ByteArray) (n : Int) : Int := firstE [pageE p, unl (inB n 0 2147483647) 2]
theorem WithLSN_any (p : ByteArray) (n : Int) (w : World) (hp : p.size ≤ maxLen) :
    Calls Tryd.prog 40 #[.string p, .int .i64 n] w fun r w' => r = .returned (.tuple #[.string (if wlE p n = 0 then wLsn p n else ⟨#[]⟩), .int .i64 (wlE p n)]) ∧ Below w.heap.size w w' := by
  have HP := Lib.hid (fun W => pageErr_any p W hp)
  by_cases z1 : wlE p n = 0
  · have hz := first2_z.1 z1
    have hin := inB_true.1 ((unl_zero (by decide)).1 hz.2)
    have hL := fun W => withLSN_any p n W (pageE_zero.1 hz.1) (by omega) (by omega)
    rw [z1, if_pos rfl]
    have h1 : (firstE [pageE p, unl (inB n 0 2147483647) 2] != 0) = false := by
      have : firstE [pageE p, unl (inB n 0 2147483647) 2] = 0 := z1
      rw [this]; rfl
    have HL := Lib.hid hL
    clear hz hin z1 hL
    go_enter Tryd.func40, Tryd.ntmps40
    go_wp2_with (first | (go_at_call 53; (with_reducible refine (HP.out _).mono ?_); rintro e w' ⟨rfl, rfl⟩) | (go_at_call 57; refine (logop_within_any _ _ _ _).mono ?_; rintro e w' ⟨rfl, rfl⟩) | (go_at_call 54; refine (logop_unless_any _ _ _).mono ?_; rintro e w' ⟨rfl, rfl⟩) | (go_at_call 52; refine (logop_first_list [_, _] w (by simp)).mono ?_; rintro e w' ⟨rfl, rfl⟩) | (go_at_call 75; (with_reducible refine (HL.out _).mono ?_); rintro e W1 ⟨rfl, hbW1⟩; obtain ⟨hcW1, hfW1⟩ := bcell hbW1))
    go_ret2
    exact ⟨rfl, by (repeat (first | assumption | exact Below.refl _ _ | refine bel_drewN ?_ _ | refine bel_alloc ?_ _ | refine bel_trans ?_ (by assumption) | refine Below.trans ?_ (by assumption)))⟩
  · rw [if_neg z1]
    have h1 : (firstE [pageE p, unl (inB n 0 2147483647) 2] != 0) = true := by
      rw [bne_iff_ne]; exact z1
    clear z1
    go_enter Tryd.func40, Tryd.ntmps40
    go_wp2_with (first | (go_at_call 53; (with_reducible refine (HP.out _).mono ?_); rintro e w' ⟨rfl, rfl⟩) | (go_at_call 57; refine (logop_within_any _ _ _ _).mono ?_; rintro e w' ⟨rfl, rfl⟩) | (go_at_call 54; refine (logop_unless_any _ _ _).mono ?_; rintro e w' ⟨rfl, rfl⟩) | (go_at_call 52; refine (logop_first_list [_, _] w (by simp)).mono ?_; rintro e w' ⟨rfl, rfl⟩))
    go_ret2
    exact ⟨rfl, by (repeat (first | assumption | exact Below.refl _ _ | refine bel_drewN ?_ _ | refine bel_alloc ?_ _ | refine bel_trans ?_ (by assumption) | refine Below.trans ?_ (by assumption)))⟩
end Go.Proofs.YtgmipogidmcilaaDoor
