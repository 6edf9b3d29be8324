/-
  Chapter 21: the law LogopReads: its walk.
-/
import Derived.Test.YtgmipogidmcilaaDoorOpOf4
import Derived.Test.YtgmipogidmcilaaDoorOpLaw
namespace Go.Proofs.YtgmipogidmcilaaDoor
set_option linter.unusedVariables false
set_option linter.unusedSimpArgs false
open Go.RowKit Go.Sort

set_option maxRecDepth 100000 in
set_option maxHeartbeats 4000000 in
theorem wLogopReads (s : ByteArray) (hs : s.size ≤ maxLen) (w : World) :
    Calls Tryd.prog 10 #[.string s] w fun e w' => e = .returned (.bool true) ∧ Below w.heap.size w w' := by
  have HAW := Lib.hid awake21_any
  have hA := fun W => OpOf_any s W hs
  have hB := fun W => EntryOf_any s W hs
  have hC := fun W => refOf_any s W hs
  have hD := fun W => refEntryOf_any s W hs
  obtain ⟨o, ho⟩ : ∃ o, o = ofR s := ⟨_, rfl⟩
  obtain ⟨c, hc⟩ : ∃ c, c = ofE s := ⟨_, rfl⟩
  obtain ⟨x, hx⟩ : ∃ x, x = entOfR s := ⟨_, rfl⟩
  obtain ⟨d, hd⟩ : ∃ d, d = entOfE s := ⟨_, rfl⟩
  rw [← ho, ← hc] at hA hC
  rw [← hx, ← hd] at hB hD
  rw [ent_eta] at hB hD
  unfold opV at hA hC
  have HA := Lib.hid hA
  have HB := Lib.hid hB
  have HC := Lib.hid hC
  have HD := Lib.hid hD
  clear hA hB hC hD ho hc hx hd
  unfold maxLen at hs
  by_cases h1 : 3100 < s.size
  · have h1' : (3100 : Int) < s.size := by omega
    go_enter Tryd.func10, Tryd.ntmps10
    go_wp2_with (first | (go_at_call 12; (with_reducible refine (HAW.out _).mono ?_); rintro e W1 ⟨rfl, hbW1⟩; obtain ⟨hcW1, hfW1⟩ := bcell hbW1))
    go_ret
    exact ⟨rfl, by (repeat (first | assumption | exact Below.refl _ _ | refine bel_drewN ?_ _ | refine bel_alloc ?_ _ | refine bel_trans ?_ (by assumption) | refine Below.trans ?_ (by assumption)))⟩
  · have h1' : (s.size : Int) ≤ 3100 := by omega
    go_enter Tryd.func10, Tryd.ntmps10
    go_wp2_with (first
      | (go_at_call 12; (with_reducible refine (HAW.out _).mono ?_); rintro e W1 ⟨rfl, hbW1⟩; have ha0 := hbW1)
      | (go_at_call 45; (with_reducible refine (HA.out _).mono ?_); rintro e W2 ⟨rfl, hbW2⟩; have hw2 := bel_trans ha0 hbW2; have HN0 := Lib.hid (Box.new W2 #[.int .i64 0, .int .i64 0, .int .i64 0, .int .i64 0, .string ⟨#[]⟩, .string ⟨#[]⟩] 27); have hc0 := bel_alloc hw2 (.cells #[.int .i64 0, .int .i64 0, .int .i64 0, .int .i64 0, .string ⟨#[]⟩, .string ⟨#[]⟩] 27); clear hbW2)
      | (refine wpList_store_new rfl 27 (.tmp 3) (.tmp 19) rfl rfl W2.heap.size #[.int .i64 o.k, .int .i64 o.a, .int .i64 o.e, .int .i64 o.c, .string o.o, .string o.n] rfl rfl w hc0 hw2.size 27 _ HN0.out (by kernel_rfl) (by kernel_rfl) (by kernel_rfl) ?_; intro W3 ha1 hx3 hk3; have B0_3 := Lib.hid hx3; clear hx3 hk3)
      | (go_at_call 46; (with_reducible refine (HB.out _).mono ?_); rintro e W4 ⟨rfl, hbW4⟩; have hw4 := bel_trans ha1 hbW4; have HN1 := Lib.hid (Box.new W4 #[.int .i64 0, .int .i64 0, .int .i64 0, .int .i64 0, .int .i64 0, .bool false, .int .i64 0, .int .i64 0, .int .i64 0, .int .i64 0, .string ⟨#[]⟩, .string ⟨#[]⟩, .string ⟨#[]⟩] 57); have hc1 := bel_alloc hw4 (.cells #[.int .i64 0, .int .i64 0, .int .i64 0, .int .i64 0, .int .i64 0, .bool false, .int .i64 0, .int .i64 0, .int .i64 0, .int .i64 0, .string ⟨#[]⟩, .string ⟨#[]⟩, .string ⟨#[]⟩] 57); have B0_4 := Lib.hid (B0_3.out.below hbW4); have L0_4 := B0_4.out.lt; clear hbW4)
      | (refine wpList_store_new rfl 57 (.tmp 5) (.tmp 24) rfl rfl W4.heap.size #[.int .i64 x.k, .int .i64 x.t, .int .i64 x.p, .int .i64 x.x, .int .i64 x.g, .bool x.f, .int .i64 x.o.k, .int .i64 x.o.a, .int .i64 x.o.e, .int .i64 x.o.c, .string x.o.o, .string x.o.n, .string x.d] rfl rfl w hc1 hw4.size 57 _ HN1.out (by kernel_rfl) (by kernel_rfl) (by kernel_rfl) ?_; intro W5 ha2 hx5 hk5; have B1_5 := Lib.hid hx5; have B0_5 := Lib.hid (hk5 _ _ _ (Nat.ne_of_lt L0_4) (B0_4.out.old _)); clear hx5 hk5)
      | (go_at_call 47; (with_reducible refine (HC.out _).mono ?_); rintro e W6 ⟨rfl, hbW6⟩; have hw6 := bel_trans ha2 hbW6; have HN2 := Lib.hid (Box.new W6 #[.int .i64 0, .int .i64 0, .int .i64 0, .int .i64 0, .string ⟨#[]⟩, .string ⟨#[]⟩] 27); have hc2 := bel_alloc hw6 (.cells #[.int .i64 0, .int .i64 0, .int .i64 0, .int .i64 0, .string ⟨#[]⟩, .string ⟨#[]⟩] 27); have B0_6 := Lib.hid (B0_5.out.below hbW6); have L0_6 := B0_6.out.lt; have B1_6 := Lib.hid (B1_5.out.below hbW6); have L1_6 := B1_6.out.lt; clear hbW6)
      | (refine wpList_store_new rfl 27 (.tmp 7) (.tmp 29) rfl rfl W6.heap.size #[.int .i64 o.k, .int .i64 o.a, .int .i64 o.e, .int .i64 o.c, .string o.o, .string o.n] rfl rfl w hc2 hw6.size 27 _ HN2.out (by kernel_rfl) (by kernel_rfl) (by kernel_rfl) ?_; intro W7 ha3 hx7 hk7; have B2_7 := Lib.hid hx7; have B0_7 := Lib.hid (hk7 _ _ _ (Nat.ne_of_lt L0_6) (B0_6.out.old _)); have B1_7 := Lib.hid (hk7 _ _ _ (Nat.ne_of_lt L1_6) (B1_6.out.old _)); clear hx7 hk7)
      | (go_at_call 48; (with_reducible refine (HD.out _).mono ?_); rintro e W8 ⟨rfl, hbW8⟩; have hw8 := bel_trans ha3 hbW8; have HN3 := Lib.hid (Box.new W8 #[.int .i64 0, .int .i64 0, .int .i64 0, .int .i64 0, .int .i64 0, .bool false, .int .i64 0, .int .i64 0, .int .i64 0, .int .i64 0, .string ⟨#[]⟩, .string ⟨#[]⟩, .string ⟨#[]⟩] 57); have hc3 := bel_alloc hw8 (.cells #[.int .i64 0, .int .i64 0, .int .i64 0, .int .i64 0, .int .i64 0, .bool false, .int .i64 0, .int .i64 0, .int .i64 0, .int .i64 0, .string ⟨#[]⟩, .string ⟨#[]⟩, .string ⟨#[]⟩] 57); have B0_8 := Lib.hid (B0_7.out.below hbW8); have L0_8 := B0_8.out.lt; have B1_8 := Lib.hid (B1_7.out.below hbW8); have L1_8 := B1_8.out.lt; have B2_8 := Lib.hid (B2_7.out.below hbW8); have L2_8 := B2_8.out.lt; clear hbW8)
      | (refine wpList_store_new rfl 57 (.tmp 9) (.tmp 34) rfl rfl W8.heap.size #[.int .i64 x.k, .int .i64 x.t, .int .i64 x.p, .int .i64 x.x, .int .i64 x.g, .bool x.f, .int .i64 x.o.k, .int .i64 x.o.a, .int .i64 x.o.e, .int .i64 x.o.c, .string x.o.o, .string x.o.n, .string x.d] rfl rfl w hc3 hw8.size 57 _ HN3.out (by kernel_rfl) (by kernel_rfl) (by kernel_rfl) ?_; intro W9 ha4 hx9 hk9; have B3_9 := Lib.hid hx9; have B0_9 := Lib.hid (hk9 _ _ _ (Nat.ne_of_lt L0_8) (B0_8.out.old _)); have B1_9 := Lib.hid (hk9 _ _ _ (Nat.ne_of_lt L1_8) (B1_8.out.old _)); have B2_9 := Lib.hid (hk9 _ _ _ (Nat.ne_of_lt L2_8) (B2_8.out.old _)); have cc0 := B0_9.out.cells; have cc1 := B1_9.out.cells; have cc2 := B2_9.out.cells; have cc3 := B3_9.out.cells; have ll0 := B0_9.out.lt; have ll1 := B1_9.out.lt; have ll2 := B2_9.out.lt; have ll3 := B3_9.out.lt; clear hx9 hk9))
    go_ret
    exact ⟨rfl, ha4⟩
end Go.Proofs.YtgmipogidmcilaaDoor
