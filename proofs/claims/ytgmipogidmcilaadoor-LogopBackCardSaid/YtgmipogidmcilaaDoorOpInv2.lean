/-
  Chapter 21: inverses, joined; the reference's.
-/
import Derived.Test.YtgmipogidmcilaaDoorOpInv
namespace Go.Proofs.YtgmipogidmcilaaDoor
set_option linter.unusedVariables false
set_option linter.unusedSimpArgs false
open Go.RowKit Go.Sort

theorem opOK_pos' {x : Op} (h : opOK x) : (0 ≤ x.k ∧ x.k ≤ 6) ∧ (0 ≤ x.e ∧ x.e ≤ 512) ∧ x.o.size ≤ 3100 ∧ x.n.size ≤ 3100 := by unfold opOK at h; omega
theorem Inverse_ok (x : Op) (w : World) (h : opE x = 0) :
    Calls Tryd.prog 22 #[opV x] w fun r w' => r = .returned (.tuple #[opV (opInv x), .int .i64 0]) ∧ Below w.heap.size w w' := by
  have hok := (opE_iff x).1 h
  have hs := opOK_pos' hok
  obtain ⟨k, a, e, c, o, n⟩ := x
  dsimp only at hs
  obtain ⟨hk, he, ho, hn⟩ := hs
  have : k = 0 ∨ k = 1 ∨ k = 2 ∨ k = 3 ∨ k = 4 ∨ k = 5 ∨ k = 6 := by omega
  rcases this with rfl | rfl | rfl | rfl | rfl | rfl | rfl
  · exact Inverse_0 a e c o n w ho hn he.1 he.2 h
  · exact Inverse_1 a e c o n w ho hn he.1 he.2 h
  · exact Inverse_2 a e c o n w ho hn he.1 he.2 h
  · exact Inverse_3 a e c o n w ho hn he.1 he.2 h
  · exact Inverse_4 a e c o n w ho hn he.1 he.2 h
  · exact Inverse_5 a e c o n w ho hn he.1 he.2 h
  · exact Inverse_6 a e c o n w ho hn he.1 he.2 h

set_option maxRecDepth 100000 in
set_option maxHeartbeats 1000000 in
theorem refInverse_1 (a : Int) (o n : ByteArray) (w : World) :
    Calls Tryd.prog 24 #[.agg #[.int .i64 1, .int .i64 a, .int .i64 0, .int .i64 0, .string o, .string n]] w fun r w' => r = .returned (.agg #[.int .i64 1, .int .i64 a, .int .i64 0, .int .i64 0, .string n, .string o]) ∧ Below w.heap.size w w' := by
  have hr1 : Box ((w.alloc (.cells #[.int .i64 1, .int .i64 a, .int .i64 0, .int .i64 0, .string o, .string n] 27)).alloc (.cells #[.int .i64 0, .int .i64 0, .int .i64 0, .int .i64 0, .string ⟨#[]⟩, .string ⟨#[]⟩] 27)) (w.heap.size + 1) #[.int .i64 0, .int .i64 0, .int .i64 0, .int .i64 0, .string ⟨#[]⟩, .string ⟨#[]⟩] 27 := by
    have h := Box.new (w.alloc (.cells #[.int .i64 1, .int .i64 a, .int .i64 0, .int .i64 0, .string o, .string n] 27)) #[.int .i64 0, .int .i64 0, .int .i64 0, .int .i64 0, .string ⟨#[]⟩, .string ⟨#[]⟩] 27
    rw [World.size_alloc] at h; exact h
  have HR := Lib.hid hr1
  clear hr1
  go_enter Tryd.func24, Tryd.ntmps24
  go_wp2_with (refine wpList_store_new rfl 27 (.tmp 2) (.tmp 16) rfl rfl (w.heap.size + 1) #[.int .i64 1, .int .i64 a, .int .i64 0, .int .i64 0, .string n, .string o] rfl rfl w (by (repeat (first | assumption | exact Below.refl _ _ | refine bel_drewN ?_ _ | refine bel_alloc ?_ _ | refine bel_trans ?_ (by assumption) | refine Below.trans ?_ (by assumption)))) (Nat.le_succ _) 27 #[.int .i64 0, .int .i64 0, .int .i64 0, .int .i64 0, .string ⟨#[]⟩, .string ⟨#[]⟩] HR.out (by kernel_rfl) (by kernel_rfl) (by kernel_rfl) ?_; intro W9 hb9 hr9 _)
  exact bodyPost_ret (results_cell_row Tryd.results24 _ W9 (w.heap.size + 1) 27 _ (0, 0) _ rfl hr9 Tryd.underlying27 rfl (by kernel_rfl)) rfl ⟨rfl, hb9⟩

set_option maxRecDepth 100000 in
set_option maxHeartbeats 1000000 in
theorem refInverse_6 (a : Int) (o n : ByteArray) (w : World) :
    Calls Tryd.prog 24 #[.agg #[.int .i64 6, .int .i64 a, .int .i64 0, .int .i64 0, .string o, .string n]] w fun r w' => r = .returned (.agg #[.int .i64 6, .int .i64 a, .int .i64 0, .int .i64 0, .string n, .string o]) ∧ Below w.heap.size w w' := by
  have hr1 : Box ((w.alloc (.cells #[.int .i64 6, .int .i64 a, .int .i64 0, .int .i64 0, .string o, .string n] 27)).alloc (.cells #[.int .i64 0, .int .i64 0, .int .i64 0, .int .i64 0, .string ⟨#[]⟩, .string ⟨#[]⟩] 27)) (w.heap.size + 1) #[.int .i64 0, .int .i64 0, .int .i64 0, .int .i64 0, .string ⟨#[]⟩, .string ⟨#[]⟩] 27 := by
    have h := Box.new (w.alloc (.cells #[.int .i64 6, .int .i64 a, .int .i64 0, .int .i64 0, .string o, .string n] 27)) #[.int .i64 0, .int .i64 0, .int .i64 0, .int .i64 0, .string ⟨#[]⟩, .string ⟨#[]⟩] 27
    rw [World.size_alloc] at h; exact h
  have HR := Lib.hid hr1
  clear hr1
  go_enter Tryd.func24, Tryd.ntmps24
  go_wp2_with (refine wpList_store_new rfl 27 (.tmp 2) (.tmp 16) rfl rfl (w.heap.size + 1) #[.int .i64 6, .int .i64 a, .int .i64 0, .int .i64 0, .string n, .string o] rfl rfl w (by (repeat (first | assumption | exact Below.refl _ _ | refine bel_drewN ?_ _ | refine bel_alloc ?_ _ | refine bel_trans ?_ (by assumption) | refine Below.trans ?_ (by assumption)))) (Nat.le_succ _) 27 #[.int .i64 0, .int .i64 0, .int .i64 0, .int .i64 0, .string ⟨#[]⟩, .string ⟨#[]⟩] HR.out (by kernel_rfl) (by kernel_rfl) (by kernel_rfl) ?_; intro W9 hb9 hr9 _)
  exact bodyPost_ret (results_cell_row Tryd.results24 _ W9 (w.heap.size + 1) 27 _ (0, 0) _ rfl hr9 Tryd.underlying27 rfl (by kernel_rfl)) rfl ⟨rfl, hb9⟩

set_option maxRecDepth 100000 in
set_option maxHeartbeats 1000000 in
theorem refInverse_2 (a e : Int) (n : ByteArray) (hn : n.size ≤ 3100) (he0 : 0 ≤ e) (he1 : e ≤ 512) (w : World) :
    Calls Tryd.prog 24 #[.agg #[.int .i64 2, .int .i64 a, .int .i64 e, .int .i64 0, .string ⟨#[]⟩, .string n]] w fun r w' => r = .returned (.agg #[.int .i64 3, .int .i64 a, .int .i64 (e + n.size), .int .i64 0, .string n, .string ⟨#[]⟩]) ∧ Below w.heap.size w w' := by
  have hr1 : Box ((w.alloc (.cells #[.int .i64 2, .int .i64 a, .int .i64 e, .int .i64 0, .string ⟨#[]⟩, .string n] 27)).alloc (.cells #[.int .i64 0, .int .i64 0, .int .i64 0, .int .i64 0, .string ⟨#[]⟩, .string ⟨#[]⟩] 27)) (w.heap.size + 1) #[.int .i64 0, .int .i64 0, .int .i64 0, .int .i64 0, .string ⟨#[]⟩, .string ⟨#[]⟩] 27 := by
    have h := Box.new (w.alloc (.cells #[.int .i64 2, .int .i64 a, .int .i64 e, .int .i64 0, .string ⟨#[]⟩, .string n] 27)) #[.int .i64 0, .int .i64 0, .int .i64 0, .int .i64 0, .string ⟨#[]⟩, .string ⟨#[]⟩] 27
    rw [World.size_alloc] at h; exact h
  have HR := Lib.hid hr1
  clear hr1
  go_enter Tryd.func24, Tryd.ntmps24
  go_wp2_with (refine wpList_store_new rfl 27 (.tmp 2) (.tmp 29) rfl rfl (w.heap.size + 1) #[.int .i64 3, .int .i64 a, .int .i64 (e + n.size), .int .i64 0, .string n, .string ⟨#[]⟩] rfl rfl w (by (repeat (first | assumption | exact Below.refl _ _ | refine bel_drewN ?_ _ | refine bel_alloc ?_ _ | refine bel_trans ?_ (by assumption) | refine Below.trans ?_ (by assumption)))) (Nat.le_succ _) 27 #[.int .i64 0, .int .i64 0, .int .i64 0, .int .i64 0, .string ⟨#[]⟩, .string ⟨#[]⟩] HR.out (by kernel_rfl) (by kernel_rfl) (by kernel_rfl) ?_; intro W9 hb9 hr9 _)
  exact bodyPost_ret (results_cell_row Tryd.results24 _ W9 (w.heap.size + 1) 27 _ (0, 0) _ rfl hr9 Tryd.underlying27 rfl (by kernel_rfl)) rfl ⟨rfl, hb9⟩

set_option maxRecDepth 100000 in
set_option maxHeartbeats 1000000 in
theorem refInverse_3 (a e : Int) (o : ByteArray) (ho : o.size ≤ 3100) (he0 : 0 ≤ e) (he1 : e ≤ 512) (w : World) :
    Calls Tryd.prog 24 #[.agg #[.int .i64 3, .int .i64 a, .int .i64 e, .int .i64 0, .string o, .string ⟨#[]⟩]] w fun r w' => r = .returned (.agg #[.int .i64 2, .int .i64 a, .int .i64 (e - o.size), .int .i64 0, .string ⟨#[]⟩, .string o]) ∧ Below w.heap.size w w' := by
  have hr1 : Box ((w.alloc (.cells #[.int .i64 3, .int .i64 a, .int .i64 e, .int .i64 0, .string o, .string ⟨#[]⟩] 27)).alloc (.cells #[.int .i64 0, .int .i64 0, .int .i64 0, .int .i64 0, .string ⟨#[]⟩, .string ⟨#[]⟩] 27)) (w.heap.size + 1) #[.int .i64 0, .int .i64 0, .int .i64 0, .int .i64 0, .string ⟨#[]⟩, .string ⟨#[]⟩] 27 := by
    have h := Box.new (w.alloc (.cells #[.int .i64 3, .int .i64 a, .int .i64 e, .int .i64 0, .string o, .string ⟨#[]⟩] 27)) #[.int .i64 0, .int .i64 0, .int .i64 0, .int .i64 0, .string ⟨#[]⟩, .string ⟨#[]⟩] 27
    rw [World.size_alloc] at h; exact h
  have HR := Lib.hid hr1
  clear hr1
  go_enter Tryd.func24, Tryd.ntmps24
  go_wp2_with (refine wpList_store_new rfl 27 (.tmp 2) (.tmp 42) rfl rfl (w.heap.size + 1) #[.int .i64 2, .int .i64 a, .int .i64 (e - o.size), .int .i64 0, .string ⟨#[]⟩, .string o] rfl rfl w (by (repeat (first | assumption | exact Below.refl _ _ | refine bel_drewN ?_ _ | refine bel_alloc ?_ _ | refine bel_trans ?_ (by assumption) | refine Below.trans ?_ (by assumption)))) (Nat.le_succ _) 27 #[.int .i64 0, .int .i64 0, .int .i64 0, .int .i64 0, .string ⟨#[]⟩, .string ⟨#[]⟩] HR.out (by kernel_rfl) (by kernel_rfl) (by kernel_rfl) ?_; intro W9 hb9 hr9 _)
  exact bodyPost_ret (results_cell_row Tryd.results24 _ W9 (w.heap.size + 1) 27 _ (0, 0) _ rfl hr9 Tryd.underlying27 rfl (by kernel_rfl)) rfl ⟨rfl, hb9⟩

set_option maxRecDepth 100000 in
set_option maxHeartbeats 1000000 in
theorem refInverse_4 (a c : Int) (w : World) :
    Calls Tryd.prog 24 #[.agg #[.int .i64 4, .int .i64 a, .int .i64 0, .int .i64 c, .string ⟨#[]⟩, .string ⟨#[]⟩]] w fun r w' => r = .returned (.agg #[.int .i64 5, .int .i64 a, .int .i64 0, .int .i64 c, .string ⟨#[]⟩, .string ⟨#[]⟩]) ∧ Below w.heap.size w w' := by
  have hr1 : Box ((w.alloc (.cells #[.int .i64 4, .int .i64 a, .int .i64 0, .int .i64 c, .string ⟨#[]⟩, .string ⟨#[]⟩] 27)).alloc (.cells #[.int .i64 0, .int .i64 0, .int .i64 0, .int .i64 0, .string ⟨#[]⟩, .string ⟨#[]⟩] 27)) (w.heap.size + 1) #[.int .i64 0, .int .i64 0, .int .i64 0, .int .i64 0, .string ⟨#[]⟩, .string ⟨#[]⟩] 27 := by
    have h := Box.new (w.alloc (.cells #[.int .i64 4, .int .i64 a, .int .i64 0, .int .i64 c, .string ⟨#[]⟩, .string ⟨#[]⟩] 27)) #[.int .i64 0, .int .i64 0, .int .i64 0, .int .i64 0, .string ⟨#[]⟩, .string ⟨#[]⟩] 27
    rw [World.size_alloc] at h; exact h
  have HR := Lib.hid hr1
  clear hr1
  go_enter Tryd.func24, Tryd.ntmps24
  go_wp2_with (refine wpList_store_new rfl 27 (.tmp 2) (.tmp 49) rfl rfl (w.heap.size + 1) #[.int .i64 5, .int .i64 a, .int .i64 0, .int .i64 c, .string ⟨#[]⟩, .string ⟨#[]⟩] rfl rfl w (by (repeat (first | assumption | exact Below.refl _ _ | refine bel_drewN ?_ _ | refine bel_alloc ?_ _ | refine bel_trans ?_ (by assumption) | refine Below.trans ?_ (by assumption)))) (Nat.le_succ _) 27 #[.int .i64 0, .int .i64 0, .int .i64 0, .int .i64 0, .string ⟨#[]⟩, .string ⟨#[]⟩] HR.out (by kernel_rfl) (by kernel_rfl) (by kernel_rfl) ?_; intro W9 hb9 hr9 _)
  exact bodyPost_ret (results_cell_row Tryd.results24 _ W9 (w.heap.size + 1) 27 _ (0, 0) _ rfl hr9 Tryd.underlying27 rfl (by kernel_rfl)) rfl ⟨rfl, hb9⟩

set_option maxRecDepth 100000 in
set_option maxHeartbeats 1000000 in
theorem refInverse_5 (a c : Int) (w : World) :
    Calls Tryd.prog 24 #[.agg #[.int .i64 5, .int .i64 a, .int .i64 0, .int .i64 c, .string ⟨#[]⟩, .string ⟨#[]⟩]] w fun r w' => r = .returned (.agg #[.int .i64 4, .int .i64 a, .int .i64 0, .int .i64 c, .string ⟨#[]⟩, .string ⟨#[]⟩]) ∧ Below w.heap.size w w' := by
  have hr1 : Box ((w.alloc (.cells #[.int .i64 5, .int .i64 a, .int .i64 0, .int .i64 c, .string ⟨#[]⟩, .string ⟨#[]⟩] 27)).alloc (.cells #[.int .i64 0, .int .i64 0, .int .i64 0, .int .i64 0, .string ⟨#[]⟩, .string ⟨#[]⟩] 27)) (w.heap.size + 1) #[.int .i64 0, .int .i64 0, .int .i64 0, .int .i64 0, .string ⟨#[]⟩, .string ⟨#[]⟩] 27 := by
    have h := Box.new (w.alloc (.cells #[.int .i64 5, .int .i64 a, .int .i64 0, .int .i64 c, .string ⟨#[]⟩, .string ⟨#[]⟩] 27)) #[.int .i64 0, .int .i64 0, .int .i64 0, .int .i64 0, .string ⟨#[]⟩, .string ⟨#[]⟩] 27
    rw [World.size_alloc] at h; exact h
  have HR := Lib.hid hr1
  clear hr1
  go_enter Tryd.func24, Tryd.ntmps24
  go_wp2_with (refine wpList_store_new rfl 27 (.tmp 2) (.tmp 56) rfl rfl (w.heap.size + 1) #[.int .i64 4, .int .i64 a, .int .i64 0, .int .i64 c, .string ⟨#[]⟩, .string ⟨#[]⟩] rfl rfl w (by (repeat (first | assumption | exact Below.refl _ _ | refine bel_drewN ?_ _ | refine bel_alloc ?_ _ | refine bel_trans ?_ (by assumption) | refine Below.trans ?_ (by assumption)))) (Nat.le_succ _) 27 #[.int .i64 0, .int .i64 0, .int .i64 0, .int .i64 0, .string ⟨#[]⟩, .string ⟨#[]⟩] HR.out (by kernel_rfl) (by kernel_rfl) (by kernel_rfl) ?_; intro W9 hb9 hr9 _)
  exact bodyPost_ret (results_cell_row Tryd.results24 _ W9 (w.heap.size + 1) 27 _ (0, 0) _ rfl hr9 Tryd.underlying27 rfl (by kernel_rfl)) rfl ⟨rfl, hb9⟩
set_option maxRecDepth 100000 in
set_option maxHeartbeats 1000000 in
theorem refInverse_0 (w : World) :
    Calls Tryd.prog 24 #[.agg #[.int .i64 0, .int .i64 0, .int .i64 0, .int .i64 0, .string ⟨#[]⟩, .string ⟨#[]⟩]] w fun r w' => r = .returned (.agg #[.int .i64 0, .int .i64 0, .int .i64 0, .int .i64 0, .string ⟨#[]⟩, .string ⟨#[]⟩]) ∧ Below w.heap.size w w' := by
  have hr1 : Box ((w.alloc (.cells #[.int .i64 0, .int .i64 0, .int .i64 0, .int .i64 0, .string ⟨#[]⟩, .string ⟨#[]⟩] 27)).alloc (.cells #[.int .i64 0, .int .i64 0, .int .i64 0, .int .i64 0, .string ⟨#[]⟩, .string ⟨#[]⟩] 27)) (w.heap.size + 1) #[.int .i64 0, .int .i64 0, .int .i64 0, .int .i64 0, .string ⟨#[]⟩, .string ⟨#[]⟩] 27 := by
    have h := Box.new (w.alloc (.cells #[.int .i64 0, .int .i64 0, .int .i64 0, .int .i64 0, .string ⟨#[]⟩, .string ⟨#[]⟩] 27)) #[.int .i64 0, .int .i64 0, .int .i64 0, .int .i64 0, .string ⟨#[]⟩, .string ⟨#[]⟩] 27
    rw [World.size_alloc] at h; exact h
  have HR := Lib.hid hr1
  clear hr1
  go_enter Tryd.func24, Tryd.ntmps24
  go_wp2_with (refine wpList_store_new rfl 27 (.tmp 2) (.tmp 57) rfl rfl (w.heap.size + 1) #[.int .i64 0, .int .i64 0, .int .i64 0, .int .i64 0, .string ⟨#[]⟩, .string ⟨#[]⟩] rfl rfl w (by (repeat (first | assumption | exact Below.refl _ _ | refine bel_drewN ?_ _ | refine bel_alloc ?_ _ | refine bel_trans ?_ (by assumption) | refine Below.trans ?_ (by assumption)))) (Nat.le_succ _) 27 #[.int .i64 0, .int .i64 0, .int .i64 0, .int .i64 0, .string ⟨#[]⟩, .string ⟨#[]⟩] HR.out (by kernel_rfl) (by kernel_rfl) (by kernel_rfl) ?_; intro W9 hb9 hr9 _)
  exact bodyPost_ret (results_cell_row Tryd.results24 _ W9 (w.heap.size + 1) 27 _ (0, 0) _ rfl hr9 Tryd.underlying27 rfl (by kernel_rfl)) rfl ⟨rfl, hb9⟩


theorem refInverse_ok (x : Op) (w : World) (h : opE x = 0) :
    Calls Tryd.prog 24 #[opV x] w fun r w' => r = .returned (opV (opInv x)) ∧ Below w.heap.size w w' := by
  have hok := (opE_iff x).1 h
  obtain ⟨k, a, e, c, o, n⟩ := x
  unfold opOK at hok
  dsimp only at hok
  rcases hok with ⟨rfl, rfl, rfl, rfl, ho, hn⟩ | ⟨rfl, rfl, rfl, hs, h1, h2, h3, h4⟩ | ⟨rfl, rfl, ho, h1, h2, h3, h4, h5⟩ | ⟨rfl, rfl, hn, h1, h2, h3, h4, h5⟩ | ⟨hk, rfl, ho, hn, h1, h2, h3, h4⟩ | ⟨rfl, rfl, rfl, rfl, ho, hn⟩
  · obtain rfl := size_zero ho; obtain rfl := size_zero hn; exact refInverse_0 w
  · exact refInverse_1 a o n w
  · obtain rfl := size_zero ho; exact refInverse_2 a e n (by omega) (by omega) (by omega) w
  · obtain rfl := size_zero hn; exact refInverse_3 a e o (by omega) (by omega) (by omega) w
  · obtain rfl := size_zero ho; obtain rfl := size_zero hn
    rcases hk with rfl | rfl
    · exact refInverse_4 a c w
    · exact refInverse_5 a c w
  · exact refInverse_6 0 o n w
end Go.Proofs.YtgmipogidmcilaaDoor
