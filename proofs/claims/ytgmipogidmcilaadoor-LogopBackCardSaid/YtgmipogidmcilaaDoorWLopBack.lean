/-
  Chapter 21: the law LogopBack: its walk.
-/
import Derived.Test.YtgmipogidmcilaaDoorOpOf4
import Derived.Test.YtgmipogidmcilaaDoorOpBack
import Derived.Test.YtgmipogidmcilaaDoorOpRdo
import Derived.Test.YtgmipogidmcilaaDoorOpInv2
import Derived.Test.YtgmipogidmcilaaDoorOpLaw
namespace Go.Proofs.YtgmipogidmcilaaDoor
set_option linter.unusedVariables false
set_option linter.unusedSimpArgs false
open Go.RowKit Go.Sort

theorem short_no2 {x : Op} (h : ¬ (x.o.size ≤ 600 ∧ x.n.size ≤ 600)) : (decide (x.o.size ≤ 600) && decide (x.n.size ≤ 600)) = false := by
  rw [Bool.and_eq_false_iff, decide_eq_false_iff_not, decide_eq_false_iff_not]
  by_cases h1 : x.o.size ≤ 600
  · exact .inr fun h2 => h ⟨h1, h2⟩
  · exact .inl h1
theorem short_yes2 {x : Op} (h : x.o.size ≤ 600 ∧ x.n.size ≤ 600) : (decide (x.o.size ≤ 600) && decide (x.n.size ≤ 600)) = true := by simp [h.1, h.2]
theorem back_entry {o : Op} {n : Int} (h : opE o = 0) (hn : inB n 1 2147483647 = true) : entE ⟨0, 3, n, 0, 5, false, o, ⟨#[]⟩⟩ = 0 := by
  have hn2 : inB n 0 2147483647 = true := inB_true.2 ⟨by have := (inB_true.1 hn).1; omega, (inB_true.1 hn).2⟩
  have e1 : entRng ⟨0, 3, n, 0, 5, false, o, ⟨#[]⟩⟩ = true := by unfold entRng; dsimp only; rw [hn2]; rfl
  have e2 : entForm ⟨0, 3, n, 0, 5, false, o, ⟨#[]⟩⟩ = true := rfl
  unfold entE
  rw [e1, e2]
  dsimp only
  rw [h]
  rfl

set_option maxRecDepth 100000 in
set_option maxHeartbeats 8000000 in
theorem wLogopBack (p : ByteArray) (hp : p.size ≤ maxLen) (o : Op) (ho : o.o.size ≤ maxLen) (hn : o.n.size ≤ maxLen) (n : Int) (hn0 : (Lit.int .i64 n).wf = true) (w : World) :
    Calls Tryd.prog 11 #[.string p, opV o, .int .i64 n] w fun e w' => e = .returned (.bool true) ∧ Below w.heap.size w w' := by
  have HAW := Lib.hid awake21_any
  have hPE := fun W => PageErr_any p W hp
  have hS := fun W => short_any o W ho hn
  have hNE := fun W => NumberErr_any n W
  have hw0 := bel_alloc (Below.refl w.heap.size w) (.cells #[.int .i64 o.k, .int .i64 o.a, .int .i64 o.e, .int .i64 o.c, .string o.o, .string o.n] 27)
  have hB4 := Box.new w #[.int .i64 o.k, .int .i64 o.a, .int .i64 o.e, .int .i64 o.c, .string o.o, .string o.n] 27
  have B4_0 := Lib.hid hB4
  clear hB4
  by_cases z1 : pageE p = 0
  · rw [z1] at hPE
    have HPE := Lib.hid hPE
    have hps := pageE_zero.1 z1
    by_cases z2 : o.o.size ≤ 600 ∧ o.n.size ≤ 600
    · rw [short_yes2 z2] at hS
      have hE := fun W => refOpErr_any o W (by omega) (by omega)
      by_cases z3 : opE o = 0
      · rw [z3] at hE
        by_cases z4 : lsnE n = 0
        · rw [z4] at hNE
          have hin : inB n 1 2147483647 = true := (unl_zero (by decide)).1 z4
          have hok := (opE_iff o).1 z3
          obtain ⟨iok, iinv⟩ := opInv_ok hok
          have hI := fun W => Inverse_ok o W z3
          have hJ := fun W => Inverse_ok (opInv o) W ((opE_iff _).2 iok)
          rw [iinv] at hJ
          have hB := fun W => BytesOf_any o W (by omega) (by omega)
          have e1 : opBytesE o = bs (opBytesL o) := by unfold opBytesE; rw [if_pos z3]
          rw [e1, z3] at hB
          have hO := fun W => OpOf_any (bs (opBytesL o)) W (by
            have h9 : o.o.size ≤ 600 ∧ o.n.size ≤ 600 := z2
            rw [bs_size]; unfold opBytesL; rw [List.length_append, List.length_append, opBytesAt_len _ 5 (by omega), bl_length, bl_length]; unfold maxLen; omega)
          rw [(of_bytes hok).1, (of_bytes hok).2] at hO
          have hee := back_entry z3 hin
          have hEB := fun W => EntryBytes_f 0 3 n 0 5 false o ⟨#[]⟩ W (by omega) (by omega) (Nat.zero_le _)
          have e2 : entBytesE ⟨0, 3, n, 0, 5, false, o, ⟨#[]⟩⟩ = bs (entBytesL ⟨0, 3, n, 0, 5, false, o, ⟨#[]⟩⟩) := by unfold entBytesE; rw [if_pos hee]
          rw [e2, hee] at hEB
          have hEO := fun W => EntryOf_any (bs (entBytesL ⟨0, 3, n, 0, 5, false, o, ⟨#[]⟩⟩)) W (by
            rw [bs_size]; unfold entBytesL opBytesL
            simp only [List.length_append, lit_length, bl_length, opBytesAt_len _ 5 (Nat.le_refl _)]
            have : (⟨#[]⟩ : ByteArray).size = 0 := rfl
            unfold maxLen; omega)
          rw [(ent_bytes hee).1, (ent_bytes hee).2, ent_eta] at hEO
          dsimp only at hEO
          have hF := fun W => Fits_any p o W hps hok
          have hR0 := fun W => Redone_any p false n o W hp (by omega) (by omega)
          have hR1 := fun W => Redone_any p true n o W hp (by omega) (by omega)
          have hT0 : ∀ h : (redo p false n o).2.2 = 0, ∀ W, Calls Tryd.prog 37 #[.string (redo p false n o).1, .bool false, .int .i64 n, opV o] W fun r w' => r = .returned (.tuple #[.string (redo p false n o).1, .bool false, .int .i64 0]) ∧ Below W.heap.size W w' := fun h W => by
            obtain ⟨t1, t2⟩ := redo_twice hps hin z3 h
            have := Redone_any (redo p false n o).1 false n o W (by rw [t2]; decide) (by omega) (by omega)
            rw [t1] at this; exact this
          have hT1 : ∀ h : (redo p true n o).2.2 = 0, ∀ W, Calls Tryd.prog 37 #[.string (redo p true n o).1, .bool true, .int .i64 n, opV o] W fun r w' => r = .returned (.tuple #[.string (redo p true n o).1, .bool false, .int .i64 0]) ∧ Below W.heap.size W w' := fun h W => by
            obtain ⟨t1, t2⟩ := redo_twice hps hin z3 h
            have := Redone_any (redo p true n o).1 true n o W (by rw [t2]; decide) (by omega) (by omega)
            rw [t1] at this; exact this
          obtain ⟨⟨s0, i0, e0⟩, hr0⟩ : ∃ t, t = redo p false n o := ⟨_, rfl⟩
          obtain ⟨⟨s1, i1, e1'⟩, hr1⟩ : ∃ t, t = redo p true n o := ⟨_, rfl⟩
          rw [← hr0] at hR0 hT0
          rw [← hr1] at hR1 hT1
          dsimp only at hR0 hT0 hR1 hT1
          have hT0' : (e0 != 0) = false → ∀ W, _ := fun h => hT0 (by simpa using h)
          have hT1' : (e1' != 0) = false → ∀ W, _ := fun h => hT1 (by simpa using h)
          obtain ⟨X, hX⟩ : ∃ X, X = opInv o := ⟨_, rfl⟩
          rw [← hX] at hI hJ
          obtain ⟨sb, hsb⟩ : ∃ b, b = bs (opBytesL o) := ⟨_, rfl⟩
          rw [← hsb] at hB hO
          obtain ⟨se, hse⟩ : ∃ b, b = bs (entBytesL ⟨0, 3, n, 0, 5, false, o, ⟨#[]⟩⟩) := ⟨_, rfl⟩
          rw [← hse] at hEB hEO
          have hback : opFit p o = true → opOne p o = (opDo p o, 0) ∧ opOne (opDo p o) X = (p, 0) ∧ (opDo p o).size = 512 := fun hf => by
            have hd := opDo_size hps hok
            obtain ⟨f1, f2⟩ := op_back hps hok hf
            refine ⟨?_, ?_, hd⟩
            · unfold opOne opTry; rw [if_neg (fun h => h z1), if_neg (fun h => h z3), hf, if_pos rfl]
            · unfold opOne opTry; rw [if_neg (fun h => h (pageE_zero.2 hd)), hX, if_neg (fun h => h ((opE_iff _).2 iok)), f1, if_pos rfl, f2]
          have hxs : X.o.size ≤ 3100 ∧ X.n.size ≤ 3100 := by
            rw [hX]
            have := opOK_pos iok
            exact ⟨this.o, this.n⟩
          have hA1 := fun W => Applied_any p o W hp (by omega) (by omega)
          have hA2 := fun (h : (opDo p o).size = 512) W => Applied_any (opDo p o) X W (by rw [h]; decide) hxs.1 hxs.2
          unfold opV at *
          have HS := Lib.hid hS
          have HE := Lib.hid hE
          have HNE := Lib.hid hNE
          have HI := Lib.hid hI
          have HJ := Lib.hid hJ
          have HB := Lib.hid hB
          have HO := Lib.hid hO
          have HEB := Lib.hid hEB
          have HEO := Lib.hid hEO
          have HR0 := Lib.hid hR0
          have HR1 := Lib.hid hR1
          have HT0 := Lib.hid hT0'
          have HT1 := Lib.hid hT1'
          cases hf : opFit p o
          · rw [hf] at hF
            have HF := Lib.hid hF
            clear hF hf hback hA1 hA2 hPE hS hE hNE hI hJ hB hO hEB hEO hR0 hR1 hT0 hT1 hT0' hT1' hr0 hr1 hX hsb hse e1 e2 hee iok iinv hok hin z1 z2 z3 z4 hps hxs
            go_enter Tryd.func11, Tryd.ntmps11
            go_wp2_with (first
              | (go_at_call 12; (with_reducible refine (HAW.out _).mono ?_); rintro e W1 ⟨rfl, hbW1⟩; have hw1 := bel_trans hw0 hbW1; have B4_1 := Lib.hid (B4_0.out.below hbW1); have c4_1 := B4_1.out.cells; have l4_1 := B4_1.out.lt; clear hbW1)
              | (go_at_call 19; (with_reducible refine (HPE.out _).mono ?_); rintro e w' ⟨rfl, rfl⟩)
              | (go_at_call 14; (with_reducible refine (HS.out _).mono ?_); rintro e W2 ⟨rfl, hbW2⟩; have hw2 := bel_trans hw1 hbW2; have B4_2 := Lib.hid (B4_1.out.below hbW2); have c4_2 := B4_2.out.cells; have l4_2 := B4_2.out.lt; clear hbW2)
              | (go_at_call 23; (with_reducible refine (HE.out _).mono ?_); rintro e W3 ⟨rfl, hbW3⟩; have hw3 := bel_trans hw2 hbW3; have B4_3 := Lib.hid (B4_2.out.below hbW3); have c4_3 := B4_3.out.cells; have l4_3 := B4_3.out.lt; clear hbW3)
              | (go_at_call 49; (with_reducible refine (HNE.out _).mono ?_); rintro e w' ⟨rfl, rfl⟩)
              | (go_at_call 22; (with_reducible refine (HI.out _).mono ?_); rintro e W4 ⟨rfl, hbW4⟩; have hw4 := bel_trans hw3 hbW4; have B4_4 := Lib.hid (B4_3.out.below hbW4); clear hbW4; have HN5 := Lib.hid (Box.new W4 #[.int .i64 0, .int .i64 0, .int .i64 0, .int .i64 0, .string ⟨#[]⟩, .string ⟨#[]⟩] 27); have ha5 := bel_alloc hw4 (.cells #[.int .i64 0, .int .i64 0, .int .i64 0, .int .i64 0, .string ⟨#[]⟩, .string ⟨#[]⟩] 27); have L4_5 := B4_4.out.lt)
              | (refine wpList_store_new rfl 27 (.tmp 7) (.tmp 54) rfl rfl W4.heap.size #[.int .i64 X.k, .int .i64 X.a, .int .i64 X.e, .int .i64 X.c, .string X.o, .string X.n] rfl rfl w ha5 hw4.size 27 _ HN5.out (by kernel_rfl) (by kernel_rfl) (by kernel_rfl) ?_; intro W5 hw5 hx5 hk5; have B7_5 := Lib.hid hx5; have B4_5 := Lib.hid (hk5 _ _ _ (Nat.ne_of_lt L4_5) (B4_4.out.old _)); have c7_5 := B7_5.out.cells; have l7_5 := B7_5.out.lt; clear hx5 hk5)
              | (go_at_call 22; (with_reducible refine (HJ.out _).mono ?_); rintro e W6 ⟨rfl, hbW6⟩; have hw6 := bel_trans hw5 hbW6; have B4_6 := Lib.hid (B4_5.out.below hbW6); have B7_6 := Lib.hid (B7_5.out.below hbW6); clear hbW6; have HN7 := Lib.hid (Box.new W6 #[.int .i64 0, .int .i64 0, .int .i64 0, .int .i64 0, .string ⟨#[]⟩, .string ⟨#[]⟩] 27); have ha7 := bel_alloc hw6 (.cells #[.int .i64 0, .int .i64 0, .int .i64 0, .int .i64 0, .string ⟨#[]⟩, .string ⟨#[]⟩] 27); have L4_7 := B4_6.out.lt; have L7_7 := B7_6.out.lt)
              | (refine wpList_store_new rfl 27 (.tmp 9) (.tmp 59) rfl rfl W6.heap.size #[.int .i64 o.k, .int .i64 o.a, .int .i64 o.e, .int .i64 o.c, .string o.o, .string o.n] rfl rfl w ha7 hw6.size 27 _ HN7.out (by kernel_rfl) (by kernel_rfl) (by kernel_rfl) ?_; intro W7 hw7 hx7 hk7; have B9_7 := Lib.hid hx7; have B4_7 := Lib.hid (hk7 _ _ _ (Nat.ne_of_lt L4_7) (B4_6.out.old _)); have B7_7 := Lib.hid (hk7 _ _ _ (Nat.ne_of_lt L7_7) (B7_6.out.old _)); have c4_7 := B4_7.out.cells; have l4_7 := B4_7.out.lt; clear hx7 hk7)
              | (go_at_call 31; (with_reducible refine (HB.out _).mono ?_); rintro e W8 ⟨rfl, hbW8⟩; have hw8 := bel_trans hw7 hbW8; have B4_8 := Lib.hid (B4_7.out.below hbW8); have B7_8 := Lib.hid (B7_7.out.below hbW8); have B9_8 := Lib.hid (B9_7.out.below hbW8); clear hbW8)
              | (go_at_call 45; (with_reducible refine (HO.out _).mono ?_); rintro e W9 ⟨rfl, hbW9⟩; have hw9 := bel_trans hw8 hbW9; have B4_9 := Lib.hid (B4_8.out.below hbW9); have B7_9 := Lib.hid (B7_8.out.below hbW9); have B9_9 := Lib.hid (B9_8.out.below hbW9); clear hbW9; have HN10 := Lib.hid (Box.new W9 #[.int .i64 0, .int .i64 0, .int .i64 0, .int .i64 0, .string ⟨#[]⟩, .string ⟨#[]⟩] 27); have ha10 := bel_alloc hw9 (.cells #[.int .i64 0, .int .i64 0, .int .i64 0, .int .i64 0, .string ⟨#[]⟩, .string ⟨#[]⟩] 27); have L4_10 := B4_9.out.lt; have L7_10 := B7_9.out.lt; have L9_10 := B9_9.out.lt)
              | (refine wpList_store_new rfl 27 (.tmp 13) (.tmp 69) rfl rfl W9.heap.size #[.int .i64 o.k, .int .i64 o.a, .int .i64 o.e, .int .i64 o.c, .string o.o, .string o.n] rfl rfl w ha10 hw9.size 27 _ HN10.out (by kernel_rfl) (by kernel_rfl) (by kernel_rfl) ?_; intro W10 hw10 hx10 hk10; have B13_10 := Lib.hid hx10; have B4_10 := Lib.hid (hk10 _ _ _ (Nat.ne_of_lt L4_10) (B4_9.out.old _)); have B7_10 := Lib.hid (hk10 _ _ _ (Nat.ne_of_lt L7_10) (B7_9.out.old _)); have B9_10 := Lib.hid (hk10 _ _ _ (Nat.ne_of_lt L9_10) (B9_9.out.old _)); have c4_10 := B4_10.out.cells; have l4_10 := B4_10.out.lt; clear hx10 hk10; have HN11 := Lib.hid (Box.new W10 #[.int .i64 0, .int .i64 0, .int .i64 0, .int .i64 0, .int .i64 0, .bool false, .int .i64 0, .int .i64 0, .int .i64 0, .int .i64 0, .string ⟨#[]⟩, .string ⟨#[]⟩, .string ⟨#[]⟩] 57); have ha11 := bel_alloc hw10 (.cells #[.int .i64 0, .int .i64 0, .int .i64 0, .int .i64 0, .int .i64 0, .bool false, .int .i64 0, .int .i64 0, .int .i64 0, .int .i64 0, .string ⟨#[]⟩, .string ⟨#[]⟩, .string ⟨#[]⟩] 57); have L4_11 := B4_10.out.lt; have L7_11 := B7_10.out.lt; have L9_11 := B9_10.out.lt; have L13_11 := B13_10.out.lt)
              | (refine wpList_store_new rfl 57 (.tmp 15) (.tmp 73) rfl rfl W10.heap.size #[.int .i64 0, .int .i64 3, .int .i64 n, .int .i64 0, .int .i64 5, .bool false, .int .i64 o.k, .int .i64 o.a, .int .i64 o.e, .int .i64 o.c, .string o.o, .string o.n, .string ⟨#[]⟩] rfl rfl w ha11 hw10.size 57 _ HN11.out (by kernel_rfl) (by kernel_rfl) (by kernel_rfl) ?_; intro W11 hw11 hx11 hk11; have B15_11 := Lib.hid hx11; have B4_11 := Lib.hid (hk11 _ _ _ (Nat.ne_of_lt L4_11) (B4_10.out.old _)); have B7_11 := Lib.hid (hk11 _ _ _ (Nat.ne_of_lt L7_11) (B7_10.out.old _)); have B9_11 := Lib.hid (hk11 _ _ _ (Nat.ne_of_lt L9_11) (B9_10.out.old _)); have B13_11 := Lib.hid (hk11 _ _ _ (Nat.ne_of_lt L13_11) (B13_10.out.old _)); have c15_11 := B15_11.out.cells; have l15_11 := B15_11.out.lt; clear hx11 hk11)
              | (go_at_call 34; (with_reducible refine (HEB.out _).mono ?_); rintro e W12 ⟨rfl, hbW12⟩; have hw12 := bel_trans hw11 hbW12; have B4_12 := Lib.hid (B4_11.out.below hbW12); have B7_12 := Lib.hid (B7_11.out.below hbW12); have B9_12 := Lib.hid (B9_11.out.below hbW12); have B13_12 := Lib.hid (B13_11.out.below hbW12); have B15_12 := Lib.hid (B15_11.out.below hbW12); clear hbW12)
              | (go_at_call 46; (with_reducible refine (HEO.out _).mono ?_); rintro e W13 ⟨rfl, hbW13⟩; have hw13 := bel_trans hw12 hbW13; have B4_13 := Lib.hid (B4_12.out.below hbW13); have B7_13 := Lib.hid (B7_12.out.below hbW13); have B9_13 := Lib.hid (B9_12.out.below hbW13); have B13_13 := Lib.hid (B13_12.out.below hbW13); have B15_13 := Lib.hid (B15_12.out.below hbW13); clear hbW13; have HN14 := Lib.hid (Box.new W13 #[.int .i64 0, .int .i64 0, .int .i64 0, .int .i64 0, .int .i64 0, .bool false, .int .i64 0, .int .i64 0, .int .i64 0, .int .i64 0, .string ⟨#[]⟩, .string ⟨#[]⟩, .string ⟨#[]⟩] 57); have ha14 := bel_alloc hw13 (.cells #[.int .i64 0, .int .i64 0, .int .i64 0, .int .i64 0, .int .i64 0, .bool false, .int .i64 0, .int .i64 0, .int .i64 0, .int .i64 0, .string ⟨#[]⟩, .string ⟨#[]⟩, .string ⟨#[]⟩] 57); have L4_14 := B4_13.out.lt; have L7_14 := B7_13.out.lt; have L9_14 := B9_13.out.lt; have L13_14 := B13_13.out.lt; have L15_14 := B15_13.out.lt)
              | (refine wpList_store_new rfl 57 (.tmp 18) (.tmp 82) rfl rfl W13.heap.size #[.int .i64 0, .int .i64 3, .int .i64 n, .int .i64 0, .int .i64 5, .bool false, .int .i64 o.k, .int .i64 o.a, .int .i64 o.e, .int .i64 o.c, .string o.o, .string o.n, .string ⟨#[]⟩] rfl rfl w ha14 hw13.size 57 _ HN14.out (by kernel_rfl) (by kernel_rfl) (by kernel_rfl) ?_; intro W14 hw14 hx14 hk14; have B18_14 := Lib.hid hx14; have B4_14 := Lib.hid (hk14 _ _ _ (Nat.ne_of_lt L4_14) (B4_13.out.old _)); have B7_14 := Lib.hid (hk14 _ _ _ (Nat.ne_of_lt L7_14) (B7_13.out.old _)); have B9_14 := Lib.hid (hk14 _ _ _ (Nat.ne_of_lt L9_14) (B9_13.out.old _)); have B13_14 := Lib.hid (hk14 _ _ _ (Nat.ne_of_lt L13_14) (B13_13.out.old _)); have B15_14 := Lib.hid (hk14 _ _ _ (Nat.ne_of_lt L15_14) (B15_13.out.old _)); have c4_14 := B4_14.out.cells; have l4_14 := B4_14.out.lt; have c9_14 := B9_14.out.cells; have l9_14 := B9_14.out.lt; have c13_14 := B13_14.out.cells; have l13_14 := B13_14.out.lt; have c15_14 := B15_14.out.cells; have l15_14 := B15_14.out.lt; have c18_14 := B18_14.out.cells; have l18_14 := B18_14.out.lt; clear hx14 hk14)
              | (go_at_call 30; (with_reducible refine (HF.out _).mono ?_); rintro e W15 ⟨rfl, hbW15⟩; have hw15 := bel_trans hw14 hbW15; have B4_15 := Lib.hid (B4_14.out.below hbW15); have B7_15 := Lib.hid (B7_14.out.below hbW15); have c4_15 := B4_15.out.cells; have l4_15 := B4_15.out.lt; clear hbW15)
              | (go_at_call 18; (with_reducible refine (HA1.out _).mono ?_); rintro e W16 ⟨rfl, hbW16⟩; have hw16 := bel_trans hw15 hbW16; have B4_16 := Lib.hid (B4_15.out.below hbW16); have B7_16 := Lib.hid (B7_15.out.below hbW16); have c7_16 := B7_16.out.cells; have l7_16 := B7_16.out.lt; clear hbW16)
              | (go_at_call 18; (with_reducible refine (HA2.out _).mono ?_); rintro e W17 ⟨rfl, hbW17⟩; have hw17 := bel_trans hw16 hbW17; have B4_17 := Lib.hid (B4_16.out.below hbW17); have c4_17 := B4_17.out.cells; have l4_17 := B4_17.out.lt; clear hbW17))
            go_loopw [24] (fun i wr => ∃ k : Nat, k ≤ 2 ∧ i = .int .i64 k ∧ Below w.heap.size w wr ∧ Box wr w.heap.size #[.int .i64 o.k, .int .i64 o.a, .int .i64 o.e, .int .i64 o.c, .string o.o, .string o.n] 27) (fun i _ => 2 - (intOf i).toNat)
            case atStart => exact ⟨0, by omega, rfl, hw15, B4_15.out⟩
            case round =>
              obtain ⟨k, hk, rfl, hb, hbx⟩ := hrel
              have hcx := hbx.cells
              have hlx := hbx.lt
              have HBX := Lib.hid hbx
              clear hbx
              have : k = 0 ∨ k = 1 ∨ k = 2 := by omega
              rcases this with rfl | rfl | rfl
              · cases z0 : (e0 != 0)
                · have T0 := HT0.out z0
                  go_wp2_with (first | (go_at_call 37; (with_reducible refine (HR0.out _).mono ?_); rintro e V1 ⟨rfl, hbV1⟩; have hv1 := bel_trans hb hbV1; have BX1 := Lib.hid (HBX.out.below hbV1); have cV1 := BX1.out.cells; have lV1 := BX1.out.lt; clear hbV1) | (go_at_call 37; (with_reducible refine (T0 _).mono ?_); rintro e V2 ⟨rfl, hbV2⟩; have hv2 := bel_trans hv1 hbV2; have BX2 := Lib.hid (BX1.out.below hbV2); clear hbV2))
                  go_roundw
                  case rel => exact ⟨1, by omega, by go_num, hv2, BX2.out⟩
                  case measure => simp [intOf]
                · go_wp2_with (first | (go_at_call 37; (with_reducible refine (HR0.out _).mono ?_); rintro e V1 ⟨rfl, hbV1⟩; have hv1 := bel_trans hb hbV1; have BX1 := Lib.hid (HBX.out.below hbV1); clear hbV1))
                  go_roundw
                  case rel => exact ⟨1, by omega, by go_num, hv1, BX1.out⟩
                  case measure => simp [intOf]
              · cases z1 : (e1' != 0)
                · have T1 := HT1.out z1
                  go_wp2_with (first | (go_at_call 37; (with_reducible refine (HR1.out _).mono ?_); rintro e V1 ⟨rfl, hbV1⟩; have hv1 := bel_trans hb hbV1; have BX1 := Lib.hid (HBX.out.below hbV1); have cV1 := BX1.out.cells; have lV1 := BX1.out.lt; clear hbV1) | (go_at_call 37; (with_reducible refine (T1 _).mono ?_); rintro e V2 ⟨rfl, hbV2⟩; have hv2 := bel_trans hv1 hbV2; have BX2 := Lib.hid (BX1.out.below hbV2); clear hbV2))
                  go_roundw
                  case rel => exact ⟨2, by omega, by go_num, hv2, BX2.out⟩
                  case measure => simp [intOf]
                · go_wp2_with (first | (go_at_call 37; (with_reducible refine (HR1.out _).mono ?_); rintro e V1 ⟨rfl, hbV1⟩; have hv1 := bel_trans hb hbV1; have BX1 := Lib.hid (HBX.out.below hbV1); clear hbV1))
                  go_roundw
                  case rel => exact ⟨2, by omega, by go_num, hv1, BX1.out⟩
                  case measure => simp [intOf]
              · go_wp2
                go_ret
                exact ⟨rfl, hb⟩
          · obtain ⟨r1, r2, r3⟩ := hback hf
            have hA1 := hA1
            have hA2 := hA2 r3
            rw [r1] at hA1
            rw [r2] at hA2
            rw [hf] at hF
            obtain ⟨q, hq⟩ : ∃ q, q = opDo p o := ⟨_, rfl⟩
            rw [← hq] at hA1 hA2
            dsimp only at hA1 hA2
            have HF := Lib.hid hF
            have HA1 := Lib.hid hA1
            have HA2 := Lib.hid hA2
            clear hF hf hback hA1 hA2 hPE hS hE hNE hI hJ hB hO hEB hEO hR0 hR1 hT0 hT1 hT0' hT1' hr0 hr1 hX hsb hse e1 e2 hee iok iinv hok hin z1 z2 z3 z4 hps hxs r1 r2 r3 hq
            go_enter Tryd.func11, Tryd.ntmps11
            go_wp2_with (first
              | (go_at_call 12; (with_reducible refine (HAW.out _).mono ?_); rintro e W1 ⟨rfl, hbW1⟩; have hw1 := bel_trans hw0 hbW1; have B4_1 := Lib.hid (B4_0.out.below hbW1); have c4_1 := B4_1.out.cells; have l4_1 := B4_1.out.lt; clear hbW1)
              | (go_at_call 19; (with_reducible refine (HPE.out _).mono ?_); rintro e w' ⟨rfl, rfl⟩)
              | (go_at_call 14; (with_reducible refine (HS.out _).mono ?_); rintro e W2 ⟨rfl, hbW2⟩; have hw2 := bel_trans hw1 hbW2; have B4_2 := Lib.hid (B4_1.out.below hbW2); have c4_2 := B4_2.out.cells; have l4_2 := B4_2.out.lt; clear hbW2)
              | (go_at_call 23; (with_reducible refine (HE.out _).mono ?_); rintro e W3 ⟨rfl, hbW3⟩; have hw3 := bel_trans hw2 hbW3; have B4_3 := Lib.hid (B4_2.out.below hbW3); have c4_3 := B4_3.out.cells; have l4_3 := B4_3.out.lt; clear hbW3)
              | (go_at_call 49; (with_reducible refine (HNE.out _).mono ?_); rintro e w' ⟨rfl, rfl⟩)
              | (go_at_call 22; (with_reducible refine (HI.out _).mono ?_); rintro e W4 ⟨rfl, hbW4⟩; have hw4 := bel_trans hw3 hbW4; have B4_4 := Lib.hid (B4_3.out.below hbW4); clear hbW4; have HN5 := Lib.hid (Box.new W4 #[.int .i64 0, .int .i64 0, .int .i64 0, .int .i64 0, .string ⟨#[]⟩, .string ⟨#[]⟩] 27); have ha5 := bel_alloc hw4 (.cells #[.int .i64 0, .int .i64 0, .int .i64 0, .int .i64 0, .string ⟨#[]⟩, .string ⟨#[]⟩] 27); have L4_5 := B4_4.out.lt)
              | (refine wpList_store_new rfl 27 (.tmp 7) (.tmp 54) rfl rfl W4.heap.size #[.int .i64 X.k, .int .i64 X.a, .int .i64 X.e, .int .i64 X.c, .string X.o, .string X.n] rfl rfl w ha5 hw4.size 27 _ HN5.out (by kernel_rfl) (by kernel_rfl) (by kernel_rfl) ?_; intro W5 hw5 hx5 hk5; have B7_5 := Lib.hid hx5; have B4_5 := Lib.hid (hk5 _ _ _ (Nat.ne_of_lt L4_5) (B4_4.out.old _)); have c7_5 := B7_5.out.cells; have l7_5 := B7_5.out.lt; clear hx5 hk5)
              | (go_at_call 22; (with_reducible refine (HJ.out _).mono ?_); rintro e W6 ⟨rfl, hbW6⟩; have hw6 := bel_trans hw5 hbW6; have B4_6 := Lib.hid (B4_5.out.below hbW6); have B7_6 := Lib.hid (B7_5.out.below hbW6); clear hbW6; have HN7 := Lib.hid (Box.new W6 #[.int .i64 0, .int .i64 0, .int .i64 0, .int .i64 0, .string ⟨#[]⟩, .string ⟨#[]⟩] 27); have ha7 := bel_alloc hw6 (.cells #[.int .i64 0, .int .i64 0, .int .i64 0, .int .i64 0, .string ⟨#[]⟩, .string ⟨#[]⟩] 27); have L4_7 := B4_6.out.lt; have L7_7 := B7_6.out.lt)
              | (refine wpList_store_new rfl 27 (.tmp 9) (.tmp 59) rfl rfl W6.heap.size #[.int .i64 o.k, .int .i64 o.a, .int .i64 o.e, .int .i64 o.c, .string o.o, .string o.n] rfl rfl w ha7 hw6.size 27 _ HN7.out (by kernel_rfl) (by kernel_rfl) (by kernel_rfl) ?_; intro W7 hw7 hx7 hk7; have B9_7 := Lib.hid hx7; have B4_7 := Lib.hid (hk7 _ _ _ (Nat.ne_of_lt L4_7) (B4_6.out.old _)); have B7_7 := Lib.hid (hk7 _ _ _ (Nat.ne_of_lt L7_7) (B7_6.out.old _)); have c4_7 := B4_7.out.cells; have l4_7 := B4_7.out.lt; clear hx7 hk7)
              | (go_at_call 31; (with_reducible refine (HB.out _).mono ?_); rintro e W8 ⟨rfl, hbW8⟩; have hw8 := bel_trans hw7 hbW8; have B4_8 := Lib.hid (B4_7.out.below hbW8); have B7_8 := Lib.hid (B7_7.out.below hbW8); have B9_8 := Lib.hid (B9_7.out.below hbW8); clear hbW8)
              | (go_at_call 45; (with_reducible refine (HO.out _).mono ?_); rintro e W9 ⟨rfl, hbW9⟩; have hw9 := bel_trans hw8 hbW9; have B4_9 := Lib.hid (B4_8.out.below hbW9); have B7_9 := Lib.hid (B7_8.out.below hbW9); have B9_9 := Lib.hid (B9_8.out.below hbW9); clear hbW9; have HN10 := Lib.hid (Box.new W9 #[.int .i64 0, .int .i64 0, .int .i64 0, .int .i64 0, .string ⟨#[]⟩, .string ⟨#[]⟩] 27); have ha10 := bel_alloc hw9 (.cells #[.int .i64 0, .int .i64 0, .int .i64 0, .int .i64 0, .string ⟨#[]⟩, .string ⟨#[]⟩] 27); have L4_10 := B4_9.out.lt; have L7_10 := B7_9.out.lt; have L9_10 := B9_9.out.lt)
              | (refine wpList_store_new rfl 27 (.tmp 13) (.tmp 69) rfl rfl W9.heap.size #[.int .i64 o.k, .int .i64 o.a, .int .i64 o.e, .int .i64 o.c, .string o.o, .string o.n] rfl rfl w ha10 hw9.size 27 _ HN10.out (by kernel_rfl) (by kernel_rfl) (by kernel_rfl) ?_; intro W10 hw10 hx10 hk10; have B13_10 := Lib.hid hx10; have B4_10 := Lib.hid (hk10 _ _ _ (Nat.ne_of_lt L4_10) (B4_9.out.old _)); have B7_10 := Lib.hid (hk10 _ _ _ (Nat.ne_of_lt L7_10) (B7_9.out.old _)); have B9_10 := Lib.hid (hk10 _ _ _ (Nat.ne_of_lt L9_10) (B9_9.out.old _)); have c4_10 := B4_10.out.cells; have l4_10 := B4_10.out.lt; clear hx10 hk10; have HN11 := Lib.hid (Box.new W10 #[.int .i64 0, .int .i64 0, .int .i64 0, .int .i64 0, .int .i64 0, .bool false, .int .i64 0, .int .i64 0, .int .i64 0, .int .i64 0, .string ⟨#[]⟩, .string ⟨#[]⟩, .string ⟨#[]⟩] 57); have ha11 := bel_alloc hw10 (.cells #[.int .i64 0, .int .i64 0, .int .i64 0, .int .i64 0, .int .i64 0, .bool false, .int .i64 0, .int .i64 0, .int .i64 0, .int .i64 0, .string ⟨#[]⟩, .string ⟨#[]⟩, .string ⟨#[]⟩] 57); have L4_11 := B4_10.out.lt; have L7_11 := B7_10.out.lt; have L9_11 := B9_10.out.lt; have L13_11 := B13_10.out.lt)
              | (refine wpList_store_new rfl 57 (.tmp 15) (.tmp 73) rfl rfl W10.heap.size #[.int .i64 0, .int .i64 3, .int .i64 n, .int .i64 0, .int .i64 5, .bool false, .int .i64 o.k, .int .i64 o.a, .int .i64 o.e, .int .i64 o.c, .string o.o, .string o.n, .string ⟨#[]⟩] rfl rfl w ha11 hw10.size 57 _ HN11.out (by kernel_rfl) (by kernel_rfl) (by kernel_rfl) ?_; intro W11 hw11 hx11 hk11; have B15_11 := Lib.hid hx11; have B4_11 := Lib.hid (hk11 _ _ _ (Nat.ne_of_lt L4_11) (B4_10.out.old _)); have B7_11 := Lib.hid (hk11 _ _ _ (Nat.ne_of_lt L7_11) (B7_10.out.old _)); have B9_11 := Lib.hid (hk11 _ _ _ (Nat.ne_of_lt L9_11) (B9_10.out.old _)); have B13_11 := Lib.hid (hk11 _ _ _ (Nat.ne_of_lt L13_11) (B13_10.out.old _)); have c15_11 := B15_11.out.cells; have l15_11 := B15_11.out.lt; clear hx11 hk11)
              | (go_at_call 34; (with_reducible refine (HEB.out _).mono ?_); rintro e W12 ⟨rfl, hbW12⟩; have hw12 := bel_trans hw11 hbW12; have B4_12 := Lib.hid (B4_11.out.below hbW12); have B7_12 := Lib.hid (B7_11.out.below hbW12); have B9_12 := Lib.hid (B9_11.out.below hbW12); have B13_12 := Lib.hid (B13_11.out.below hbW12); have B15_12 := Lib.hid (B15_11.out.below hbW12); clear hbW12)
              | (go_at_call 46; (with_reducible refine (HEO.out _).mono ?_); rintro e W13 ⟨rfl, hbW13⟩; have hw13 := bel_trans hw12 hbW13; have B4_13 := Lib.hid (B4_12.out.below hbW13); have B7_13 := Lib.hid (B7_12.out.below hbW13); have B9_13 := Lib.hid (B9_12.out.below hbW13); have B13_13 := Lib.hid (B13_12.out.below hbW13); have B15_13 := Lib.hid (B15_12.out.below hbW13); clear hbW13; have HN14 := Lib.hid (Box.new W13 #[.int .i64 0, .int .i64 0, .int .i64 0, .int .i64 0, .int .i64 0, .bool false, .int .i64 0, .int .i64 0, .int .i64 0, .int .i64 0, .string ⟨#[]⟩, .string ⟨#[]⟩, .string ⟨#[]⟩] 57); have ha14 := bel_alloc hw13 (.cells #[.int .i64 0, .int .i64 0, .int .i64 0, .int .i64 0, .int .i64 0, .bool false, .int .i64 0, .int .i64 0, .int .i64 0, .int .i64 0, .string ⟨#[]⟩, .string ⟨#[]⟩, .string ⟨#[]⟩] 57); have L4_14 := B4_13.out.lt; have L7_14 := B7_13.out.lt; have L9_14 := B9_13.out.lt; have L13_14 := B13_13.out.lt; have L15_14 := B15_13.out.lt)
              | (refine wpList_store_new rfl 57 (.tmp 18) (.tmp 82) rfl rfl W13.heap.size #[.int .i64 0, .int .i64 3, .int .i64 n, .int .i64 0, .int .i64 5, .bool false, .int .i64 o.k, .int .i64 o.a, .int .i64 o.e, .int .i64 o.c, .string o.o, .string o.n, .string ⟨#[]⟩] rfl rfl w ha14 hw13.size 57 _ HN14.out (by kernel_rfl) (by kernel_rfl) (by kernel_rfl) ?_; intro W14 hw14 hx14 hk14; have B18_14 := Lib.hid hx14; have B4_14 := Lib.hid (hk14 _ _ _ (Nat.ne_of_lt L4_14) (B4_13.out.old _)); have B7_14 := Lib.hid (hk14 _ _ _ (Nat.ne_of_lt L7_14) (B7_13.out.old _)); have B9_14 := Lib.hid (hk14 _ _ _ (Nat.ne_of_lt L9_14) (B9_13.out.old _)); have B13_14 := Lib.hid (hk14 _ _ _ (Nat.ne_of_lt L13_14) (B13_13.out.old _)); have B15_14 := Lib.hid (hk14 _ _ _ (Nat.ne_of_lt L15_14) (B15_13.out.old _)); have c4_14 := B4_14.out.cells; have l4_14 := B4_14.out.lt; have c9_14 := B9_14.out.cells; have l9_14 := B9_14.out.lt; have c13_14 := B13_14.out.cells; have l13_14 := B13_14.out.lt; have c15_14 := B15_14.out.cells; have l15_14 := B15_14.out.lt; have c18_14 := B18_14.out.cells; have l18_14 := B18_14.out.lt; clear hx14 hk14)
              | (go_at_call 30; (with_reducible refine (HF.out _).mono ?_); rintro e W15 ⟨rfl, hbW15⟩; have hw15 := bel_trans hw14 hbW15; have B4_15 := Lib.hid (B4_14.out.below hbW15); have B7_15 := Lib.hid (B7_14.out.below hbW15); have c4_15 := B4_15.out.cells; have l4_15 := B4_15.out.lt; clear hbW15)
              | (go_at_call 18; (with_reducible refine (HA1.out _).mono ?_); rintro e W16 ⟨rfl, hbW16⟩; have hw16 := bel_trans hw15 hbW16; have B4_16 := Lib.hid (B4_15.out.below hbW16); have B7_16 := Lib.hid (B7_15.out.below hbW16); have c7_16 := B7_16.out.cells; have l7_16 := B7_16.out.lt; clear hbW16)
              | (go_at_call 18; (with_reducible refine (HA2.out _).mono ?_); rintro e W17 ⟨rfl, hbW17⟩; have hw17 := bel_trans hw16 hbW17; have B4_17 := Lib.hid (B4_16.out.below hbW17); have c4_17 := B4_17.out.cells; have l4_17 := B4_17.out.lt; clear hbW17))
            go_loopw [24] (fun i wr => ∃ k : Nat, k ≤ 2 ∧ i = .int .i64 k ∧ Below w.heap.size w wr ∧ Box wr w.heap.size #[.int .i64 o.k, .int .i64 o.a, .int .i64 o.e, .int .i64 o.c, .string o.o, .string o.n] 27) (fun i _ => 2 - (intOf i).toNat)
            case atStart => exact ⟨0, by omega, rfl, hw17, B4_17.out⟩
            case round =>
              obtain ⟨k, hk, rfl, hb, hbx⟩ := hrel
              have hcx := hbx.cells
              have hlx := hbx.lt
              have HBX := Lib.hid hbx
              clear hbx
              have : k = 0 ∨ k = 1 ∨ k = 2 := by omega
              rcases this with rfl | rfl | rfl
              · cases z0 : (e0 != 0)
                · have T0 := HT0.out z0
                  go_wp2_with (first | (go_at_call 37; (with_reducible refine (HR0.out _).mono ?_); rintro e V1 ⟨rfl, hbV1⟩; have hv1 := bel_trans hb hbV1; have BX1 := Lib.hid (HBX.out.below hbV1); have cV1 := BX1.out.cells; have lV1 := BX1.out.lt; clear hbV1) | (go_at_call 37; (with_reducible refine (T0 _).mono ?_); rintro e V2 ⟨rfl, hbV2⟩; have hv2 := bel_trans hv1 hbV2; have BX2 := Lib.hid (BX1.out.below hbV2); clear hbV2))
                  go_roundw
                  case rel => exact ⟨1, by omega, by go_num, hv2, BX2.out⟩
                  case measure => simp [intOf]
                · go_wp2_with (first | (go_at_call 37; (with_reducible refine (HR0.out _).mono ?_); rintro e V1 ⟨rfl, hbV1⟩; have hv1 := bel_trans hb hbV1; have BX1 := Lib.hid (HBX.out.below hbV1); clear hbV1))
                  go_roundw
                  case rel => exact ⟨1, by omega, by go_num, hv1, BX1.out⟩
                  case measure => simp [intOf]
              · cases z1 : (e1' != 0)
                · have T1 := HT1.out z1
                  go_wp2_with (first | (go_at_call 37; (with_reducible refine (HR1.out _).mono ?_); rintro e V1 ⟨rfl, hbV1⟩; have hv1 := bel_trans hb hbV1; have BX1 := Lib.hid (HBX.out.below hbV1); have cV1 := BX1.out.cells; have lV1 := BX1.out.lt; clear hbV1) | (go_at_call 37; (with_reducible refine (T1 _).mono ?_); rintro e V2 ⟨rfl, hbV2⟩; have hv2 := bel_trans hv1 hbV2; have BX2 := Lib.hid (BX1.out.below hbV2); clear hbV2))
                  go_roundw
                  case rel => exact ⟨2, by omega, by go_num, hv2, BX2.out⟩
                  case measure => simp [intOf]
                · go_wp2_with (first | (go_at_call 37; (with_reducible refine (HR1.out _).mono ?_); rintro e V1 ⟨rfl, hbV1⟩; have hv1 := bel_trans hb hbV1; have BX1 := Lib.hid (HBX.out.below hbV1); clear hbV1))
                  go_roundw
                  case rel => exact ⟨2, by omega, by go_num, hv1, BX1.out⟩
                  case measure => simp [intOf]
              · go_wp2
                go_ret
                exact ⟨rfl, hb⟩
        · obtain ⟨e4, he4⟩ : ∃ e, e = lsnE n := ⟨_, rfl⟩
          rw [← he4] at hNE z4
          have hz4 : (e4 != 0) = true := by simp [z4]
          unfold opV at *
          have HS := Lib.hid hS
          have HE := Lib.hid hE
          have HNE := Lib.hid hNE
          clear hPE hS hE hNE z1 z2 z3 z4 hps he4
          go_enter Tryd.func11, Tryd.ntmps11
          go_wp2_with (first
            | (go_at_call 12; (with_reducible refine (HAW.out _).mono ?_); rintro e W1 ⟨rfl, hbW1⟩; have hw1 := bel_trans hw0 hbW1; have B4_1 := Lib.hid (B4_0.out.below hbW1); have c4_1 := B4_1.out.cells; have l4_1 := B4_1.out.lt; clear hbW1)
            | (go_at_call 19; (with_reducible refine (HPE.out _).mono ?_); rintro e w' ⟨rfl, rfl⟩)
            | (go_at_call 14; (with_reducible refine (HS.out _).mono ?_); rintro e W2 ⟨rfl, hbW2⟩; have hw2 := bel_trans hw1 hbW2; have B4_2 := Lib.hid (B4_1.out.below hbW2); have c4_2 := B4_2.out.cells; have l4_2 := B4_2.out.lt; clear hbW2)
            | (go_at_call 23; (with_reducible refine (HE.out _).mono ?_); rintro e W3 ⟨rfl, hbW3⟩; have hw3 := bel_trans hw2 hbW3; have B4_3 := Lib.hid (B4_2.out.below hbW3); have c4_3 := B4_3.out.cells; have l4_3 := B4_3.out.lt; clear hbW3)
            | (go_at_call 49; (with_reducible refine (HNE.out _).mono ?_); rintro e w' ⟨rfl, rfl⟩))
          go_ret
          exact ⟨rfl, hw3⟩
      · obtain ⟨e4, he4⟩ : ∃ e, e = opE o := ⟨_, rfl⟩
        rw [← he4] at hE z3
        have hz4 : (e4 != 0) = true := by simp [z3]
        unfold opV at *
        have HS := Lib.hid hS
        have HE := Lib.hid hE
        clear hPE hS hE hNE z1 z2 z3 hps he4
        go_enter Tryd.func11, Tryd.ntmps11
        go_wp2_with (first
          | (go_at_call 12; (with_reducible refine (HAW.out _).mono ?_); rintro e W1 ⟨rfl, hbW1⟩; have hw1 := bel_trans hw0 hbW1; have B4_1 := Lib.hid (B4_0.out.below hbW1); have c4_1 := B4_1.out.cells; have l4_1 := B4_1.out.lt; clear hbW1)
          | (go_at_call 19; (with_reducible refine (HPE.out _).mono ?_); rintro e w' ⟨rfl, rfl⟩)
          | (go_at_call 14; (with_reducible refine (HS.out _).mono ?_); rintro e W2 ⟨rfl, hbW2⟩; have hw2 := bel_trans hw1 hbW2; have B4_2 := Lib.hid (B4_1.out.below hbW2); have c4_2 := B4_2.out.cells; have l4_2 := B4_2.out.lt; clear hbW2)
          | (go_at_call 23; (with_reducible refine (HE.out _).mono ?_); rintro e W3 ⟨rfl, hbW3⟩; have hw3 := bel_trans hw2 hbW3; have B4_3 := Lib.hid (B4_2.out.below hbW3); have c4_3 := B4_3.out.cells; have l4_3 := B4_3.out.lt; clear hbW3)
          | (go_at_call 49; (with_reducible refine (HNE.out _).mono ?_); rintro e w' ⟨rfl, rfl⟩))
        go_ret
        exact ⟨rfl, hw3⟩
    · rw [short_no2 z2] at hS
      unfold opV at *
      have HS := Lib.hid hS
      clear hPE hS hNE z1 z2 hps
      go_enter Tryd.func11, Tryd.ntmps11
      go_wp2_with (first
        | (go_at_call 12; (with_reducible refine (HAW.out _).mono ?_); rintro e W1 ⟨rfl, hbW1⟩; have hw1 := bel_trans hw0 hbW1; have B4_1 := Lib.hid (B4_0.out.below hbW1); have c4_1 := B4_1.out.cells; have l4_1 := B4_1.out.lt; clear hbW1)
        | (go_at_call 19; (with_reducible refine (HPE.out _).mono ?_); rintro e w' ⟨rfl, rfl⟩)
        | (go_at_call 14; (with_reducible refine (HS.out _).mono ?_); rintro e W2 ⟨rfl, hbW2⟩; have hw2 := bel_trans hw1 hbW2; have B4_2 := Lib.hid (B4_1.out.below hbW2); have c4_2 := B4_2.out.cells; have l4_2 := B4_2.out.lt; clear hbW2)
        | (go_at_call 23; (with_reducible refine (HE.out _).mono ?_); rintro e W3 ⟨rfl, hbW3⟩; have hw3 := bel_trans hw2 hbW3; have B4_3 := Lib.hid (B4_2.out.below hbW3); have c4_3 := B4_3.out.cells; have l4_3 := B4_3.out.lt; clear hbW3)
        | (go_at_call 49; (with_reducible refine (HNE.out _).mono ?_); rintro e w' ⟨rfl, rfl⟩))
      go_ret
      exact ⟨rfl, hw2⟩
  · obtain ⟨e4, he4⟩ : ∃ e, e = pageE p := ⟨_, rfl⟩
    rw [← he4] at hPE z1
    have hz4 : (e4 != 0) = true := by simp [z1]
    unfold opV at *
    have HPE := Lib.hid hPE
    clear hPE hS hNE z1 he4
    go_enter Tryd.func11, Tryd.ntmps11
    go_wp2_with (first
      | (go_at_call 12; (with_reducible refine (HAW.out _).mono ?_); rintro e W1 ⟨rfl, hbW1⟩; have hw1 := bel_trans hw0 hbW1; have B4_1 := Lib.hid (B4_0.out.below hbW1); have c4_1 := B4_1.out.cells; have l4_1 := B4_1.out.lt; clear hbW1)
      | (go_at_call 19; (with_reducible refine (HPE.out _).mono ?_); rintro e w' ⟨rfl, rfl⟩)
      | (go_at_call 14; (with_reducible refine (HS.out _).mono ?_); rintro e W2 ⟨rfl, hbW2⟩; have hw2 := bel_trans hw1 hbW2; have B4_2 := Lib.hid (B4_1.out.below hbW2); have c4_2 := B4_2.out.cells; have l4_2 := B4_2.out.lt; clear hbW2)
      | (go_at_call 23; (with_reducible refine (HE.out _).mono ?_); rintro e W3 ⟨rfl, hbW3⟩; have hw3 := bel_trans hw2 hbW3; have B4_3 := Lib.hid (B4_2.out.below hbW3); have c4_3 := B4_3.out.cells; have l4_3 := B4_3.out.lt; clear hbW3)
      | (go_at_call 49; (with_reducible refine (HNE.out _).mono ?_); rintro e w' ⟨rfl, rfl⟩))
    go_ret
    exact ⟨rfl, hw1⟩
end Go.Proofs.YtgmipogidmcilaaDoor
