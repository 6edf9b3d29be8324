/-
  Chapter 22: the reference's way to check a history is the program's. No program in sight.
  Chapter 21: inverses.
-/
import Derived.Test.YtcfdpfmchchkaaaGreatDoorRcA
import Derived.Test.YtcfdpfmchchkaaaGreatDoorOpE
import Derived.Test.YtcfdpfmchchkaaaGreatDoorOpB
namespace Go.Proofs.YtcfdpfmchchkaaaGreatDoor
set_option linter.unusedVariables false
set_option linter.unusedSimpArgs false
open Go.RowKit
def VldH (l : List Rcd) (i : Nat) : Prop := i ≤ l.length ∧ ∀ k (hk : k < l.length), k < i → rcdE l k (chsH l k) l[k] = 0
section
variable {l : List Rcd} {i : Nat}
theorem VldH.mono (h : VldH l i) {j : Nat} (hj : j ≤ i) : VldH l j := ⟨Nat.le_trans hj h.1, fun k hk h1 => h.2 k hk (by omega)⟩
theorem VldH.e0 (h : VldH l i) {k : Nat} (hk : k < i) : 1 ≤ (l[k]'(by have := h.1; omega)).l ∧ (l[k]'(by have := h.1; omega)).l ≤ 2147483647 ∧ entE (l[k]'(by have := h.1; omega)).e = 0 := by
 have hl := h.1
 have h1 := (rcdE_ok (h.2 k (by omega) hk)).1
 unfold rcdE0 at h1
 rw [firstE_zero] at h1
 have h2 := inB_true.1 ((unl_zero (by decide)).1 (h1 _ (.head _)))
 exact ⟨h2.1, h2.2, h1 _ (.tail _ (.tail _ (.head _)))⟩
theorem VldH.step (h : VldH l i) {k : Nat} (hk : k + 1 < i) : (l[k]'(by have := h.1; omega)).l < (l[k + 1]'(by have := h.1; omega)).l := by
 have hl := h.1
 have h1 := (rcdE_ok (h.2 (k + 1) (by omega) hk)).1
 unfold rcdE0 at h1
 rw [firstE_zero] at h1
 have h2 := (unl_zero (by decide)).1 (h1 _ (.tail _ (.head _)))
 rw [bfrL_succ _ _ (by omega)] at h2
 exact of_decide_eq_true h2
theorem VldH.asc (h : VldH l i) : ∀ (d j : Nat) (hj : j + d + 1 < i), (l[j]'(by have := h.1; omega)).l < (l[j + d + 1]'(by have := h.1; omega)).l
 | 0, j, hj => h.step hj
 | d + 1, j, hj => Int.lt_trans (h.asc d j (by omega)) (h.step (k := j + d + 1) (by omega))
theorem VldH.lt (h : VldH l i) {j k : Nat} (hj : j < k) (hk : k < i) : (l[j]'(by have := h.1; omega)).l < (l[k]'(by have := h.1; omega)).l := by
 obtain ⟨d, rfl⟩ : ∃ d, k = j + d + 1 := ⟨k - j - 1, by omega⟩
 exact h.asc d j hk
theorem VldH.inj (h : VldH l i) {j k : Nat} (hj : j < i) (hk : k < i) (e : (l[j]'(by have := h.1; omega)).l = (l[k]'(by have := h.1; omega)).l) : j = k := by
 rcases Nat.lt_trichotomy j k with h1 | h1 | h1
 · have := h.lt h1 hk; omega
 · exact h1
 · have := h.lt h1 hj; omega
theorem fstL_get {l : List Rcd} (h : 0 < l.length) : fstL l = l[0].l := by
 match l, h with
 | x :: r, _ => rfl
theorem VldH.fst (h : VldH l i) {k : Nat} (hk : k < i) : fstL l ≤ (l[k]'(by have := h.1; omega)).l := by
 have hl := h.1
 rw [fstL_get (by omega)]
 rcases Nat.eq_zero_or_pos k with h0 | h0
 · subst h0; exact Int.le_refl _
 · exact Int.le_of_lt (h.lt h0 hk)
end
theorem entE_k {x : Lge} (h : entE x = 0) : 0 ≤ x.k ∧ x.k ≤ 5 := by
 unfold entE at h
 rw [firstE_zero] at h
 exact inB_true.1 ((unl_zero (by decide)).1 (h _ (.head _)))
theorem entE_p {x : Lge} (h : entE x = 0) : (0 ≤ x.t ∧ x.t ≤ 9999) ∧ (0 ≤ x.p ∧ x.p ≤ 2147483647) ∧ (0 ≤ x.x ∧ x.x ≤ 2147483647) ∧ (0 ≤ x.g ∧ x.g ≤ 600) := by
 unfold entE at h
 rw [firstE_zero] at h
 have := (unl_zero (by decide)).1 (h _ (.tail _ (.head _)))
 unfold entRng at this
 rw [Bool.and_eq_true, Bool.and_eq_true, Bool.and_eq_true, inB_true, inB_true, inB_true, inB_true] at this
 exact ⟨this.1.1.1, this.1.1.2, this.1.2, this.2⟩
end Go.Proofs.YtcfdpfmchchkaaaGreatDoor
namespace Go.Proofs.YtcfdpfmchchkaaaGreatDoor
set_option linter.unusedVariables false
set_option linter.unusedSimpArgs false
open Go.RowKit Go.Sort
set_option maxRecDepth 100000 in
set_option maxHeartbeats 1000000 in
theorem Inverse_0 (a e c : Int) (o n : ByteArray) (w : World) (ho : o.size ≤ 3100) (hn : n.size ≤ 3100) (he0 : 0 ≤ e) (he1 : e ≤ 512) (h : opE ⟨0, a, e, c, o, n⟩ = 0) :
 Calls Tryz.prog 219 #[.agg #[.int .i64 0, .int .i64 a, .int .i64 e, .int .i64 c, .string o, .string n]] w fun r w' => r = .returned (.tuple #[.agg #[.int .i64 0, .int .i64 a, .int .i64 e, .int .i64 c, .string n, .string o], .int .i64 0]) ∧ Below w.heap.size w w' := by
 have hE := fun W => CheckOp_any ⟨0, a, e, c, o, n⟩ W ho hn
 rw [h] at hE
 have HE := Lib.hid hE
 clear hE h
 unfold opV at HE
 go_enter Tryz.func219, Tryz.ntmps219
 go_wp2_with (first | (go_at_call 144; (with_reducible refine (HE.out _).mono ?_); rintro e W1 ⟨rfl, hbW1⟩; have hb1 : Below w.heap.size w W1 := (by (repeat (first | assumption | exact Below.refl _ _ | refine bel_drewN ?_ _ | refine bel_alloc ?_ _ | refine bel_trans ?_ (by assumption) | refine Below.trans ?_ (by assumption)))); have ho1 : Box W1 w.heap.size #[.int .i64 0, .int .i64 a, .int .i64 e, .int .i64 c, .string o, .string n] 141 := (((Box.new w #[.int .i64 0, .int .i64 a, .int .i64 e, .int .i64 c, .string o, .string n] 141).old _).below hbW1); have hr1 : Box W1 (w.heap.size + 1) #[.int .i64 0, .int .i64 0, .int .i64 0, .int .i64 0, .string ⟨#[]⟩, .string ⟨#[]⟩] 141 := (by have h := (Box.new (w.alloc (.cells #[.int .i64 0, .int .i64 a, .int .i64 e, .int .i64 c, .string o, .string n] 141)) #[.int .i64 0, .int .i64 0, .int .i64 0, .int .i64 0, .string ⟨#[]⟩, .string ⟨#[]⟩] 141).below hbW1; rw [World.size_alloc] at h; exact h); have hx1 := ho1.cells; clear hbW1) | (refine wpList_store_field rfl 9 (.tmp 43) (.tmp 40) rfl rfl w.heap.size 4 (.string n) rfl rfl rfl (by kernel_rfl) w hb1 (Nat.le_refl _) 141 _ ho1 (by show 4 < 6; omega) ?_; intro W2 hb2 ho2 hk2; have ho2 : Box W2 w.heap.size #[.int .i64 0, .int .i64 a, .int .i64 e, .int .i64 c, .string n, .string n] 141 := ho2; have hr2 := hk2 _ _ _ (by omega) hr1; have hx2 := ho2.cells; clear hb1 ho1 hx1 hr1 hk2) | (refine wpList_store_field rfl 9 (.tmp 44) (.tmp 42) rfl rfl w.heap.size 5 (.string o) rfl rfl rfl (by kernel_rfl) w hb2 (Nat.le_refl _) 141 _ ho2 (by show 5 < 6; omega) ?_; intro W3 hb3 ho3 hk3; have ho3 : Box W3 w.heap.size #[.int .i64 0, .int .i64 a, .int .i64 e, .int .i64 c, .string n, .string o] 141 := ho3; have hr3 := hk3 _ _ _ (by omega) hr2; have hx3 := ho3.cells; clear hb2 ho2 hx2 hr2 hk3) | (refine wpList_store_new rfl 141 (.tmp 2) (.tmp 45) rfl rfl (w.heap.size + 1) #[.int .i64 0, .int .i64 a, .int .i64 e, .int .i64 c, .string n, .string o] rfl rfl w hb3 (Nat.le_succ _) 141 #[.int .i64 0, .int .i64 0, .int .i64 0, .int .i64 0, .string ⟨#[]⟩, .string ⟨#[]⟩] hr3 (by kernel_rfl) (by kernel_rfl) (by kernel_rfl) ?_; intro W9 hb9 hr9 _))
 exact bodyPost_ret (results_cell_tmp Tryz.results219 _ W9 (w.heap.size + 1) 141 _ _ _ rfl rfl hr9 Tryz.underlying141 rfl (by kernel_rfl)) rfl ⟨rfl, hb9⟩
set_option maxRecDepth 100000 in
set_option maxHeartbeats 1000000 in
theorem Inverse_1 (a e c : Int) (o n : ByteArray) (w : World) (ho : o.size ≤ 3100) (hn : n.size ≤ 3100) (he0 : 0 ≤ e) (he1 : e ≤ 512) (h : opE ⟨1, a, e, c, o, n⟩ = 0) :
 Calls Tryz.prog 219 #[.agg #[.int .i64 1, .int .i64 a, .int .i64 e, .int .i64 c, .string o, .string n]] w fun r w' => r = .returned (.tuple #[.agg #[.int .i64 1, .int .i64 a, .int .i64 e, .int .i64 c, .string n, .string o], .int .i64 0]) ∧ Below w.heap.size w w' := by
 have hE := fun W => CheckOp_any ⟨1, a, e, c, o, n⟩ W ho hn
 rw [h] at hE
 have HE := Lib.hid hE
 clear hE h
 unfold opV at HE
 go_enter Tryz.func219, Tryz.ntmps219
 go_wp2_with (first | (go_at_call 144; (with_reducible refine (HE.out _).mono ?_); rintro e W1 ⟨rfl, hbW1⟩; have hb1 : Below w.heap.size w W1 := (by (repeat (first | assumption | exact Below.refl _ _ | refine bel_drewN ?_ _ | refine bel_alloc ?_ _ | refine bel_trans ?_ (by assumption) | refine Below.trans ?_ (by assumption)))); have ho1 : Box W1 w.heap.size #[.int .i64 1, .int .i64 a, .int .i64 e, .int .i64 c, .string o, .string n] 141 := (((Box.new w #[.int .i64 1, .int .i64 a, .int .i64 e, .int .i64 c, .string o, .string n] 141).old _).below hbW1); have hr1 : Box W1 (w.heap.size + 1) #[.int .i64 0, .int .i64 0, .int .i64 0, .int .i64 0, .string ⟨#[]⟩, .string ⟨#[]⟩] 141 := (by have h := (Box.new (w.alloc (.cells #[.int .i64 1, .int .i64 a, .int .i64 e, .int .i64 c, .string o, .string n] 141)) #[.int .i64 0, .int .i64 0, .int .i64 0, .int .i64 0, .string ⟨#[]⟩, .string ⟨#[]⟩] 141).below hbW1; rw [World.size_alloc] at h; exact h); have hx1 := ho1.cells; clear hbW1) | (refine wpList_store_field rfl 9 (.tmp 43) (.tmp 40) rfl rfl w.heap.size 4 (.string n) rfl rfl rfl (by kernel_rfl) w hb1 (Nat.le_refl _) 141 _ ho1 (by show 4 < 6; omega) ?_; intro W2 hb2 ho2 hk2; have ho2 : Box W2 w.heap.size #[.int .i64 1, .int .i64 a, .int .i64 e, .int .i64 c, .string n, .string n] 141 := ho2; have hr2 := hk2 _ _ _ (by omega) hr1; have hx2 := ho2.cells; clear hb1 ho1 hx1 hr1 hk2) | (refine wpList_store_field rfl 9 (.tmp 44) (.tmp 42) rfl rfl w.heap.size 5 (.string o) rfl rfl rfl (by kernel_rfl) w hb2 (Nat.le_refl _) 141 _ ho2 (by show 5 < 6; omega) ?_; intro W3 hb3 ho3 hk3; have ho3 : Box W3 w.heap.size #[.int .i64 1, .int .i64 a, .int .i64 e, .int .i64 c, .string n, .string o] 141 := ho3; have hr3 := hk3 _ _ _ (by omega) hr2; have hx3 := ho3.cells; clear hb2 ho2 hx2 hr2 hk3) | (refine wpList_store_new rfl 141 (.tmp 2) (.tmp 45) rfl rfl (w.heap.size + 1) #[.int .i64 1, .int .i64 a, .int .i64 e, .int .i64 c, .string n, .string o] rfl rfl w hb3 (Nat.le_succ _) 141 #[.int .i64 0, .int .i64 0, .int .i64 0, .int .i64 0, .string ⟨#[]⟩, .string ⟨#[]⟩] hr3 (by kernel_rfl) (by kernel_rfl) (by kernel_rfl) ?_; intro W9 hb9 hr9 _))
 exact bodyPost_ret (results_cell_tmp Tryz.results219 _ W9 (w.heap.size + 1) 141 _ _ _ rfl rfl hr9 Tryz.underlying141 rfl (by kernel_rfl)) rfl ⟨rfl, hb9⟩
set_option maxRecDepth 100000 in
set_option maxHeartbeats 1000000 in
theorem Inverse_6 (a e c : Int) (o n : ByteArray) (w : World) (ho : o.size ≤ 3100) (hn : n.size ≤ 3100) (he0 : 0 ≤ e) (he1 : e ≤ 512) (h : opE ⟨6, a, e, c, o, n⟩ = 0) :
 Calls Tryz.prog 219 #[.agg #[.int .i64 6, .int .i64 a, .int .i64 e, .int .i64 c, .string o, .string n]] w fun r w' => r = .returned (.tuple #[.agg #[.int .i64 6, .int .i64 a, .int .i64 e, .int .i64 c, .string n, .string o], .int .i64 0]) ∧ Below w.heap.size w w' := by
 have hE := fun W => CheckOp_any ⟨6, a, e, c, o, n⟩ W ho hn
 rw [h] at hE
 have HE := Lib.hid hE
 clear hE h
 unfold opV at HE
 go_enter Tryz.func219, Tryz.ntmps219
 go_wp2_with (first | (go_at_call 144; (with_reducible refine (HE.out _).mono ?_); rintro e W1 ⟨rfl, hbW1⟩; have hb1 : Below w.heap.size w W1 := (by (repeat (first | assumption | exact Below.refl _ _ | refine bel_drewN ?_ _ | refine bel_alloc ?_ _ | refine bel_trans ?_ (by assumption) | refine Below.trans ?_ (by assumption)))); have ho1 : Box W1 w.heap.size #[.int .i64 6, .int .i64 a, .int .i64 e, .int .i64 c, .string o, .string n] 141 := (((Box.new w #[.int .i64 6, .int .i64 a, .int .i64 e, .int .i64 c, .string o, .string n] 141).old _).below hbW1); have hr1 : Box W1 (w.heap.size + 1) #[.int .i64 0, .int .i64 0, .int .i64 0, .int .i64 0, .string ⟨#[]⟩, .string ⟨#[]⟩] 141 := (by have h := (Box.new (w.alloc (.cells #[.int .i64 6, .int .i64 a, .int .i64 e, .int .i64 c, .string o, .string n] 141)) #[.int .i64 0, .int .i64 0, .int .i64 0, .int .i64 0, .string ⟨#[]⟩, .string ⟨#[]⟩] 141).below hbW1; rw [World.size_alloc] at h; exact h); have hx1 := ho1.cells; clear hbW1) | (refine wpList_store_field rfl 9 (.tmp 43) (.tmp 40) rfl rfl w.heap.size 4 (.string n) rfl rfl rfl (by kernel_rfl) w hb1 (Nat.le_refl _) 141 _ ho1 (by show 4 < 6; omega) ?_; intro W2 hb2 ho2 hk2; have ho2 : Box W2 w.heap.size #[.int .i64 6, .int .i64 a, .int .i64 e, .int .i64 c, .string n, .string n] 141 := ho2; have hr2 := hk2 _ _ _ (by omega) hr1; have hx2 := ho2.cells; clear hb1 ho1 hx1 hr1 hk2) | (refine wpList_store_field rfl 9 (.tmp 44) (.tmp 42) rfl rfl w.heap.size 5 (.string o) rfl rfl rfl (by kernel_rfl) w hb2 (Nat.le_refl _) 141 _ ho2 (by show 5 < 6; omega) ?_; intro W3 hb3 ho3 hk3; have ho3 : Box W3 w.heap.size #[.int .i64 6, .int .i64 a, .int .i64 e, .int .i64 c, .string n, .string o] 141 := ho3; have hr3 := hk3 _ _ _ (by omega) hr2; have hx3 := ho3.cells; clear hb2 ho2 hx2 hr2 hk3) | (refine wpList_store_new rfl 141 (.tmp 2) (.tmp 45) rfl rfl (w.heap.size + 1) #[.int .i64 6, .int .i64 a, .int .i64 e, .int .i64 c, .string n, .string o] rfl rfl w hb3 (Nat.le_succ _) 141 #[.int .i64 0, .int .i64 0, .int .i64 0, .int .i64 0, .string ⟨#[]⟩, .string ⟨#[]⟩] hr3 (by kernel_rfl) (by kernel_rfl) (by kernel_rfl) ?_; intro W9 hb9 hr9 _))
 exact bodyPost_ret (results_cell_tmp Tryz.results219 _ W9 (w.heap.size + 1) 141 _ _ _ rfl rfl hr9 Tryz.underlying141 rfl (by kernel_rfl)) rfl ⟨rfl, hb9⟩
set_option maxRecDepth 100000 in
set_option maxHeartbeats 1000000 in
theorem Inverse_2 (a e c : Int) (o n : ByteArray) (w : World) (ho : o.size ≤ 3100) (hn : n.size ≤ 3100) (he0 : 0 ≤ e) (he1 : e ≤ 512) (h : opE ⟨2, a, e, c, o, n⟩ = 0) :
 Calls Tryz.prog 219 #[.agg #[.int .i64 2, .int .i64 a, .int .i64 e, .int .i64 c, .string o, .string n]] w fun r w' => r = .returned (.tuple #[.agg #[.int .i64 3, .int .i64 a, .int .i64 (e + n.size), .int .i64 c, .string n, .string o], .int .i64 0]) ∧ Below w.heap.size w w' := by
 have hE := fun W => CheckOp_any ⟨2, a, e, c, o, n⟩ W ho hn
 rw [h] at hE
 have HE := Lib.hid hE
 clear hE h
 unfold opV at HE
 go_enter Tryz.func219, Tryz.ntmps219
 go_wp2_with (first | (go_at_call 144; (with_reducible refine (HE.out _).mono ?_); rintro e W1 ⟨rfl, hbW1⟩; have hb1 : Below w.heap.size w W1 := (by (repeat (first | assumption | exact Below.refl _ _ | refine bel_drewN ?_ _ | refine bel_alloc ?_ _ | refine bel_trans ?_ (by assumption) | refine Below.trans ?_ (by assumption)))); have ho1 : Box W1 w.heap.size #[.int .i64 2, .int .i64 a, .int .i64 e, .int .i64 c, .string o, .string n] 141 := (((Box.new w #[.int .i64 2, .int .i64 a, .int .i64 e, .int .i64 c, .string o, .string n] 141).old _).below hbW1); have hr1 : Box W1 (w.heap.size + 1) #[.int .i64 0, .int .i64 0, .int .i64 0, .int .i64 0, .string ⟨#[]⟩, .string ⟨#[]⟩] 141 := (by have h := (Box.new (w.alloc (.cells #[.int .i64 2, .int .i64 a, .int .i64 e, .int .i64 c, .string o, .string n] 141)) #[.int .i64 0, .int .i64 0, .int .i64 0, .int .i64 0, .string ⟨#[]⟩, .string ⟨#[]⟩] 141).below hbW1; rw [World.size_alloc] at h; exact h); have hx1 := ho1.cells; clear hbW1) | (refine wpList_store_field rfl 3 (.tmp 21) (.const (.int .i64 3)) rfl rfl w.heap.size 0 (.int .i64 3) rfl rfl rfl (by kernel_rfl) w hb1 (Nat.le_refl _) 141 _ ho1 (by show 0 < 6; omega) ?_; intro W2 hb2 ho2 hk2; have ho2 : Box W2 w.heap.size #[.int .i64 3, .int .i64 a, .int .i64 e, .int .i64 c, .string o, .string n] 141 := ho2; have hr2 := hk2 _ _ _ (by omega) hr1; have hx2 := ho2.cells; clear hb1 ho1 hx1 hr1 hk2) | (refine wpList_store_field rfl 3 (.tmp 22) (.tmp 20) rfl rfl w.heap.size 2 (.int .i64 (e + n.size)) rfl rfl rfl (by kernel_rfl) w hb2 (Nat.le_refl _) 141 _ ho2 (by show 2 < 6; omega) ?_; intro W3 hb3 ho3 hk3; have ho3 : Box W3 w.heap.size #[.int .i64 3, .int .i64 a, .int .i64 (e + n.size), .int .i64 c, .string o, .string n] 141 := ho3; have hr3 := hk3 _ _ _ (by omega) hr2; have hx3 := ho3.cells; clear hb2 ho2 hx2 hr2 hk3) | (refine wpList_store_field rfl 9 (.tmp 43) (.tmp 40) rfl rfl w.heap.size 4 (.string n) rfl rfl rfl (by kernel_rfl) w hb3 (Nat.le_refl _) 141 _ ho3 (by show 4 < 6; omega) ?_; intro W4 hb4 ho4 hk4; have ho4 : Box W4 w.heap.size #[.int .i64 3, .int .i64 a, .int .i64 (e + n.size), .int .i64 c, .string n, .string n] 141 := ho4; have hr4 := hk4 _ _ _ (by omega) hr3; have hx4 := ho4.cells; clear hb3 ho3 hx3 hr3 hk4) | (refine wpList_store_field rfl 9 (.tmp 44) (.tmp 42) rfl rfl w.heap.size 5 (.string o) rfl rfl rfl (by kernel_rfl) w hb4 (Nat.le_refl _) 141 _ ho4 (by show 5 < 6; omega) ?_; intro W5 hb5 ho5 hk5; have ho5 : Box W5 w.heap.size #[.int .i64 3, .int .i64 a, .int .i64 (e + n.size), .int .i64 c, .string n, .string o] 141 := ho5; have hr5 := hk5 _ _ _ (by omega) hr4; have hx5 := ho5.cells; clear hb4 ho4 hx4 hr4 hk5) | (refine wpList_store_new rfl 141 (.tmp 2) (.tmp 45) rfl rfl (w.heap.size + 1) #[.int .i64 3, .int .i64 a, .int .i64 (e + n.size), .int .i64 c, .string n, .string o] rfl rfl w hb5 (Nat.le_succ _) 141 #[.int .i64 0, .int .i64 0, .int .i64 0, .int .i64 0, .string ⟨#[]⟩, .string ⟨#[]⟩] hr5 (by kernel_rfl) (by kernel_rfl) (by kernel_rfl) ?_; intro W9 hb9 hr9 _))
 exact bodyPost_ret (results_cell_tmp Tryz.results219 _ W9 (w.heap.size + 1) 141 _ _ _ rfl rfl hr9 Tryz.underlying141 rfl (by kernel_rfl)) rfl ⟨rfl, hb9⟩
set_option maxRecDepth 100000 in
set_option maxHeartbeats 1000000 in
theorem Inverse_3 (a e c : Int) (o n : ByteArray) (w : World) (ho : o.size ≤ 3100) (hn : n.size ≤ 3100) (he0 : 0 ≤ e) (he1 : e ≤ 512) (h : opE ⟨3, a, e, c, o, n⟩ = 0) :
 Calls Tryz.prog 219 #[.agg #[.int .i64 3, .int .i64 a, .int .i64 e, .int .i64 c, .string o, .string n]] w fun r w' => r = .returned (.tuple #[.agg #[.int .i64 2, .int .i64 a, .int .i64 (e - o.size), .int .i64 c, .string n, .string o], .int .i64 0]) ∧ Below w.heap.size w w' := by
 have hE := fun W => CheckOp_any ⟨3, a, e, c, o, n⟩ W ho hn
 rw [h] at hE
 have HE := Lib.hid hE
 clear hE h
 unfold opV at HE
 go_enter Tryz.func219, Tryz.ntmps219
 go_wp2_with (first | (go_at_call 144; (with_reducible refine (HE.out _).mono ?_); rintro e W1 ⟨rfl, hbW1⟩; have hb1 : Below w.heap.size w W1 := (by (repeat (first | assumption | exact Below.refl _ _ | refine bel_drewN ?_ _ | refine bel_alloc ?_ _ | refine bel_trans ?_ (by assumption) | refine Below.trans ?_ (by assumption)))); have ho1 : Box W1 w.heap.size #[.int .i64 3, .int .i64 a, .int .i64 e, .int .i64 c, .string o, .string n] 141 := (((Box.new w #[.int .i64 3, .int .i64 a, .int .i64 e, .int .i64 c, .string o, .string n] 141).old _).below hbW1); have hr1 : Box W1 (w.heap.size + 1) #[.int .i64 0, .int .i64 0, .int .i64 0, .int .i64 0, .string ⟨#[]⟩, .string ⟨#[]⟩] 141 := (by have h := (Box.new (w.alloc (.cells #[.int .i64 3, .int .i64 a, .int .i64 e, .int .i64 c, .string o, .string n] 141)) #[.int .i64 0, .int .i64 0, .int .i64 0, .int .i64 0, .string ⟨#[]⟩, .string ⟨#[]⟩] 141).below hbW1; rw [World.size_alloc] at h; exact h); have hx1 := ho1.cells; clear hbW1) | (refine wpList_store_field rfl 3 (.tmp 31) (.const (.int .i64 2)) rfl rfl w.heap.size 0 (.int .i64 2) rfl rfl rfl (by kernel_rfl) w hb1 (Nat.le_refl _) 141 _ ho1 (by show 0 < 6; omega) ?_; intro W2 hb2 ho2 hk2; have ho2 : Box W2 w.heap.size #[.int .i64 2, .int .i64 a, .int .i64 e, .int .i64 c, .string o, .string n] 141 := ho2; have hr2 := hk2 _ _ _ (by omega) hr1; have hx2 := ho2.cells; clear hb1 ho1 hx1 hr1 hk2) | (refine wpList_store_field rfl 3 (.tmp 32) (.tmp 30) rfl rfl w.heap.size 2 (.int .i64 (e - o.size)) rfl rfl rfl (by kernel_rfl) w hb2 (Nat.le_refl _) 141 _ ho2 (by show 2 < 6; omega) ?_; intro W3 hb3 ho3 hk3; have ho3 : Box W3 w.heap.size #[.int .i64 2, .int .i64 a, .int .i64 (e - o.size), .int .i64 c, .string o, .string n] 141 := ho3; have hr3 := hk3 _ _ _ (by omega) hr2; have hx3 := ho3.cells; clear hb2 ho2 hx2 hr2 hk3) | (refine wpList_store_field rfl 9 (.tmp 43) (.tmp 40) rfl rfl w.heap.size 4 (.string n) rfl rfl rfl (by kernel_rfl) w hb3 (Nat.le_refl _) 141 _ ho3 (by show 4 < 6; omega) ?_; intro W4 hb4 ho4 hk4; have ho4 : Box W4 w.heap.size #[.int .i64 2, .int .i64 a, .int .i64 (e - o.size), .int .i64 c, .string n, .string n] 141 := ho4; have hr4 := hk4 _ _ _ (by omega) hr3; have hx4 := ho4.cells; clear hb3 ho3 hx3 hr3 hk4) | (refine wpList_store_field rfl 9 (.tmp 44) (.tmp 42) rfl rfl w.heap.size 5 (.string o) rfl rfl rfl (by kernel_rfl) w hb4 (Nat.le_refl _) 141 _ ho4 (by show 5 < 6; omega) ?_; intro W5 hb5 ho5 hk5; have ho5 : Box W5 w.heap.size #[.int .i64 2, .int .i64 a, .int .i64 (e - o.size), .int .i64 c, .string n, .string o] 141 := ho5; have hr5 := hk5 _ _ _ (by omega) hr4; have hx5 := ho5.cells; clear hb4 ho4 hx4 hr4 hk5) | (refine wpList_store_new rfl 141 (.tmp 2) (.tmp 45) rfl rfl (w.heap.size + 1) #[.int .i64 2, .int .i64 a, .int .i64 (e - o.size), .int .i64 c, .string n, .string o] rfl rfl w hb5 (Nat.le_succ _) 141 #[.int .i64 0, .int .i64 0, .int .i64 0, .int .i64 0, .string ⟨#[]⟩, .string ⟨#[]⟩] hr5 (by kernel_rfl) (by kernel_rfl) (by kernel_rfl) ?_; intro W9 hb9 hr9 _))
 exact bodyPost_ret (results_cell_tmp Tryz.results219 _ W9 (w.heap.size + 1) 141 _ _ _ rfl rfl hr9 Tryz.underlying141 rfl (by kernel_rfl)) rfl ⟨rfl, hb9⟩
set_option maxRecDepth 100000 in
set_option maxHeartbeats 1000000 in
theorem Inverse_4 (a e c : Int) (o n : ByteArray) (w : World) (ho : o.size ≤ 3100) (hn : n.size ≤ 3100) (he0 : 0 ≤ e) (he1 : e ≤ 512) (h : opE ⟨4, a, e, c, o, n⟩ = 0) :
 Calls Tryz.prog 219 #[.agg #[.int .i64 4, .int .i64 a, .int .i64 e, .int .i64 c, .string o, .string n]] w fun r w' => r = .returned (.tuple #[.agg #[.int .i64 5, .int .i64 a, .int .i64 e, .int .i64 c, .string n, .string o], .int .i64 0]) ∧ Below w.heap.size w w' := by
 have hE := fun W => CheckOp_any ⟨4, a, e, c, o, n⟩ W ho hn
 rw [h] at hE
 have HE := Lib.hid hE
 clear hE h
 unfold opV at HE
 go_enter Tryz.func219, Tryz.ntmps219
 go_wp2_with (first | (go_at_call 144; (with_reducible refine (HE.out _).mono ?_); rintro e W1 ⟨rfl, hbW1⟩; have hb1 : Below w.heap.size w W1 := (by (repeat (first | assumption | exact Below.refl _ _ | refine bel_drewN ?_ _ | refine bel_alloc ?_ _ | refine bel_trans ?_ (by assumption) | refine Below.trans ?_ (by assumption)))); have ho1 : Box W1 w.heap.size #[.int .i64 4, .int .i64 a, .int .i64 e, .int .i64 c, .string o, .string n] 141 := (((Box.new w #[.int .i64 4, .int .i64 a, .int .i64 e, .int .i64 c, .string o, .string n] 141).old _).below hbW1); have hr1 : Box W1 (w.heap.size + 1) #[.int .i64 0, .int .i64 0, .int .i64 0, .int .i64 0, .string ⟨#[]⟩, .string ⟨#[]⟩] 141 := (by have h := (Box.new (w.alloc (.cells #[.int .i64 4, .int .i64 a, .int .i64 e, .int .i64 c, .string o, .string n] 141)) #[.int .i64 0, .int .i64 0, .int .i64 0, .int .i64 0, .string ⟨#[]⟩, .string ⟨#[]⟩] 141).below hbW1; rw [World.size_alloc] at h; exact h); have hx1 := ho1.cells; clear hbW1) | (refine wpList_store_field rfl 3 (.tmp 35) (.const (.int .i64 5)) rfl rfl w.heap.size 0 (.int .i64 5) rfl rfl rfl (by kernel_rfl) w hb1 (Nat.le_refl _) 141 _ ho1 (by show 0 < 6; omega) ?_; intro W2 hb2 ho2 hk2; have ho2 : Box W2 w.heap.size #[.int .i64 5, .int .i64 a, .int .i64 e, .int .i64 c, .string o, .string n] 141 := ho2; have hr2 := hk2 _ _ _ (by omega) hr1; have hx2 := ho2.cells; clear hb1 ho1 hx1 hr1 hk2) | (refine wpList_store_field rfl 9 (.tmp 43) (.tmp 40) rfl rfl w.heap.size 4 (.string n) rfl rfl rfl (by kernel_rfl) w hb2 (Nat.le_refl _) 141 _ ho2 (by show 4 < 6; omega) ?_; intro W3 hb3 ho3 hk3; have ho3 : Box W3 w.heap.size #[.int .i64 5, .int .i64 a, .int .i64 e, .int .i64 c, .string n, .string n] 141 := ho3; have hr3 := hk3 _ _ _ (by omega) hr2; have hx3 := ho3.cells; clear hb2 ho2 hx2 hr2 hk3) | (refine wpList_store_field rfl 9 (.tmp 44) (.tmp 42) rfl rfl w.heap.size 5 (.string o) rfl rfl rfl (by kernel_rfl) w hb3 (Nat.le_refl _) 141 _ ho3 (by show 5 < 6; omega) ?_; intro W4 hb4 ho4 hk4; have ho4 : Box W4 w.heap.size #[.int .i64 5, .int .i64 a, .int .i64 e, .int .i64 c, .string n, .string o] 141 := ho4; have hr4 := hk4 _ _ _ (by omega) hr3; have hx4 := ho4.cells; clear hb3 ho3 hx3 hr3 hk4) | (refine wpList_store_new rfl 141 (.tmp 2) (.tmp 45) rfl rfl (w.heap.size + 1) #[.int .i64 5, .int .i64 a, .int .i64 e, .int .i64 c, .string n, .string o] rfl rfl w hb4 (Nat.le_succ _) 141 #[.int .i64 0, .int .i64 0, .int .i64 0, .int .i64 0, .string ⟨#[]⟩, .string ⟨#[]⟩] hr4 (by kernel_rfl) (by kernel_rfl) (by kernel_rfl) ?_; intro W9 hb9 hr9 _))
 exact bodyPost_ret (results_cell_tmp Tryz.results219 _ W9 (w.heap.size + 1) 141 _ _ _ rfl rfl hr9 Tryz.underlying141 rfl (by kernel_rfl)) rfl ⟨rfl, hb9⟩
set_option maxRecDepth 100000 in
set_option maxHeartbeats 1000000 in
theorem Inverse_5 (a e c : Int) (o n : ByteArray) (w : World) (ho : o.size ≤ 3100) (hn : n.size ≤ 3100) (he0 : 0 ≤ e) (he1 : e ≤ 512) (h : opE ⟨5, a, e, c, o, n⟩ = 0) :
 Calls Tryz.prog 219 #[.agg #[.int .i64 5, .int .i64 a, .int .i64 e, .int .i64 c, .string o, .string n]] w fun r w' => r = .returned (.tuple #[.agg #[.int .i64 4, .int .i64 a, .int .i64 e, .int .i64 c, .string n, .string o], .int .i64 0]) ∧ Below w.heap.size w w' := by
 have hE := fun W => CheckOp_any ⟨5, a, e, c, o, n⟩ W ho hn
 rw [h] at hE
 have HE := Lib.hid hE
 clear hE h
 unfold opV at HE
 go_enter Tryz.func219, Tryz.ntmps219
 go_wp2_with (first | (go_at_call 144; (with_reducible refine (HE.out _).mono ?_); rintro e W1 ⟨rfl, hbW1⟩; have hb1 : Below w.heap.size w W1 := (by (repeat (first | assumption | exact Below.refl _ _ | refine bel_drewN ?_ _ | refine bel_alloc ?_ _ | refine bel_trans ?_ (by assumption) | refine Below.trans ?_ (by assumption)))); have ho1 : Box W1 w.heap.size #[.int .i64 5, .int .i64 a, .int .i64 e, .int .i64 c, .string o, .string n] 141 := (((Box.new w #[.int .i64 5, .int .i64 a, .int .i64 e, .int .i64 c, .string o, .string n] 141).old _).below hbW1); have hr1 : Box W1 (w.heap.size + 1) #[.int .i64 0, .int .i64 0, .int .i64 0, .int .i64 0, .string ⟨#[]⟩, .string ⟨#[]⟩] 141 := (by have h := (Box.new (w.alloc (.cells #[.int .i64 5, .int .i64 a, .int .i64 e, .int .i64 c, .string o, .string n] 141)) #[.int .i64 0, .int .i64 0, .int .i64 0, .int .i64 0, .string ⟨#[]⟩, .string ⟨#[]⟩] 141).below hbW1; rw [World.size_alloc] at h; exact h); have hx1 := ho1.cells; clear hbW1) | (refine wpList_store_field rfl 3 (.tmp 38) (.const (.int .i64 4)) rfl rfl w.heap.size 0 (.int .i64 4) rfl rfl rfl (by kernel_rfl) w hb1 (Nat.le_refl _) 141 _ ho1 (by show 0 < 6; omega) ?_; intro W2 hb2 ho2 hk2; have ho2 : Box W2 w.heap.size #[.int .i64 4, .int .i64 a, .int .i64 e, .int .i64 c, .string o, .string n] 141 := ho2; have hr2 := hk2 _ _ _ (by omega) hr1; have hx2 := ho2.cells; clear hb1 ho1 hx1 hr1 hk2) | (refine wpList_store_field rfl 9 (.tmp 43) (.tmp 40) rfl rfl w.heap.size 4 (.string n) rfl rfl rfl (by kernel_rfl) w hb2 (Nat.le_refl _) 141 _ ho2 (by show 4 < 6; omega) ?_; intro W3 hb3 ho3 hk3; have ho3 : Box W3 w.heap.size #[.int .i64 4, .int .i64 a, .int .i64 e, .int .i64 c, .string n, .string n] 141 := ho3; have hr3 := hk3 _ _ _ (by omega) hr2; have hx3 := ho3.cells; clear hb2 ho2 hx2 hr2 hk3) | (refine wpList_store_field rfl 9 (.tmp 44) (.tmp 42) rfl rfl w.heap.size 5 (.string o) rfl rfl rfl (by kernel_rfl) w hb3 (Nat.le_refl _) 141 _ ho3 (by show 5 < 6; omega) ?_; intro W4 hb4 ho4 hk4; have ho4 : Box W4 w.heap.size #[.int .i64 4, .int .i64 a, .int .i64 e, .int .i64 c, .string n, .string o] 141 := ho4; have hr4 := hk4 _ _ _ (by omega) hr3; have hx4 := ho4.cells; clear hb3 ho3 hx3 hr3 hk4) | (refine wpList_store_new rfl 141 (.tmp 2) (.tmp 45) rfl rfl (w.heap.size + 1) #[.int .i64 4, .int .i64 a, .int .i64 e, .int .i64 c, .string n, .string o] rfl rfl w hb4 (Nat.le_succ _) 141 #[.int .i64 0, .int .i64 0, .int .i64 0, .int .i64 0, .string ⟨#[]⟩, .string ⟨#[]⟩] hr4 (by kernel_rfl) (by kernel_rfl) (by kernel_rfl) ?_; intro W9 hb9 hr9 _))
 exact bodyPost_ret (results_cell_tmp Tryz.results219 _ W9 (w.heap.size + 1) 141 _ _ _ rfl rfl hr9 Tryz.underlying141 rfl (by kernel_rfl)) rfl ⟨rfl, hb9⟩
end Go.Proofs.YtcfdpfmchchkaaaGreatDoor
