/-
  Chapter 21: the page after an operation, and whether it fits: apply; Applied and Fits of the reference.
-/
import Derived.Test.YtgmipogidmcilaaDoorOpBits
import Derived.Test.YtgmipogidmcilaaDoorOpErr
namespace Go.Proofs.YtgmipogidmcilaaDoor
set_option linter.unusedVariables false
set_option linter.unusedSimpArgs false
open Go.RowKit Go.Sort

theorem bl_ext0 (p : ByteArray) (a : Nat) : bl (p.extract 0 a) = (bl p).take a := by rw [bl_extract, List.drop_zero]
theorem bl_extN (p : ByteArray) (a : Nat) : bl (p.extract a p.size) = (bl p).drop a := by rw [bl_extract, ← bl_length, List.take_length]
theorem bl_ext (p : ByteArray) (a b : Nat) : bl (p.extract a b) = subL (bl p) a b := bl_extract p a b
theorem strEq (s t : ByteArray) : (s.toList == t.toList) = (bl s == bl t) := by rw [toList_eq, toList_eq]
theorem ins_bl (p n : ByteArray) (A E : Nat) : p.extract 0 A ++ n ++ p.extract A E ++ p.extract (E + n.size) p.size = bs (insL (bl p) A E (bl n)) := by
  apply bl_inj
  rw [bl_append, bl_append, bl_append, bl_ext0, bl_extN, bl_extract]; rfl
theorem rem_bl (p : ByteArray) (A E N : Nat) : p.extract 0 A ++ p.extract (A + N) E ++ bs (zerosL N) ++ p.extract E p.size = bs (remL (bl p) A E N) := by
  apply bl_inj
  rw [bl_append, bl_append, bl_append, bl_ext0, bl_extN, bl_extract]; rfl

set_option maxRecDepth 100000 in
set_option maxHeartbeats 1000000 in
theorem apply_1 (p : ByteArray) (A : Nat) (o n : ByteArray) (w : World) (hp : p.size = 512) (h1 : o.size = n.size) (h2 : o.size ≤ 200) (h3 : A + o.size ≤ 512) :
    Calls Tryd.prog 55 #[.string p, .agg #[.int .i64 1, .int .i64 A, .int .i64 0, .int .i64 0, .string o, .string n]] w fun r w' => r = .returned (.tuple #[.string (opDo p ⟨1, A, 0, 0, o, n⟩), .bool (opFit p ⟨1, A, 0, 0, o, n⟩)]) ∧ Below w.heap.size w w' := by
  have hp1 : p.size ≤ 3100 := by omega
  have hp2 : (A : Int) ≤ p.size := by omega
  have hp3 : A + n.size ≤ p.size := by omega
  have hp4 : (o.size : Int) ≤ (p.size : Int) - A := by omega
  have ho : o.size ≤ 3100 := by omega
  have hn : n.size ≤ 3100 := by omega
  have HP := Lib.hid hp
  have H1 := Lib.hid h1
  clear hp h1
  go_enter Tryd.func55, Tryd.ntmps55
  go_wp2_with (first | ((go_at_call 79; refine (moved_any _ _ _ _ o n _ ho hn).mono ?_; rintro e W1 ⟨rfl, hbW1⟩; obtain ⟨hcW1, hfW1⟩ := bcell hbW1); have hsW1 : w.heap.size < W1.heap.size := (by have h := hbW1.size; simp at h; omega)))
  (refine wp_region_quiet_below (by kernel_rfl) (by kernel_rfl) ?_; (repeat (go_big_quiet_step ((first | (go_at_call 80; exact Calls.regrown_of (patched_any p n A _ hp1 hp3)))))); (with_reducible refine wpQuiet_nil ?_); intro W2 hreg; have hbW2 := below_of_reg hreg; clear hreg; obtain ⟨hcW2, hfW2⟩ := bcell hbW2)
  go_wp2
  go_ret2
  exact ⟨retSB rfl (by rw [strEq, bl_cut]; rfl), by (repeat (first | assumption | exact Below.refl _ _ | refine bel_drewN ?_ _ | refine bel_alloc ?_ _ | refine bel_trans ?_ (by assumption) | refine Below.trans ?_ (by assumption)))⟩

set_option maxRecDepth 100000 in
set_option maxHeartbeats 1000000 in
theorem apply_2 (p : ByteArray) (A E : Nat) (o n : ByteArray) (w : World) (hp : p.size = 512) (h1 : o.size = 0) (h2 : n.size ≤ 200) (h3 : A ≤ E) (h4 : E + n.size ≤ 512) :
    Calls Tryd.prog 55 #[.string p, .agg #[.int .i64 2, .int .i64 A, .int .i64 E, .int .i64 0, .string o, .string n]] w fun r w' => r = .returned (.tuple #[.string (opDo p ⟨2, A, E, 0, o, n⟩), .bool (opFit p ⟨2, A, E, 0, o, n⟩)]) ∧ Below w.heap.size w w' := by
  have hp1 : p.size ≤ 3100 := by omega
  have hp2 : (A : Int) ≤ p.size := by omega
  have hp3 : E + n.size ≤ p.size := by omega
  have ho : o.size ≤ 3100 := by omega
  have hn : n.size ≤ 3100 := by omega
  have hz0 : (o ++ n).size = n.size := by rw [ByteArray.size_append]; omega
  have hz1 : (p.extract 0 A ++ n).size = A + n.size := by rw [ByteArray.size_append, ByteArray.size_extract]; omega
  have hz2 : (p.extract 0 A ++ n ++ p.extract A E).size = E + n.size := by rw [ByteArray.size_append, hz1, ByteArray.size_extract]; omega
  have HP := Lib.hid hp
  have H1 := Lib.hid h1
  clear hp h1
  go_enter Tryd.func55, Tryd.ntmps55
  go_wp2_with (first | ((go_at_call 79; refine (moved_any _ _ _ _ o n _ ho hn).mono ?_; rintro e W1 ⟨rfl, hbW1⟩; obtain ⟨hcW1, hfW1⟩ := bcell hbW1); have hsW1 : w.heap.size < W1.heap.size := (by have h := hbW1.size; simp at h; omega)))
  (refine wp_region_quiet_below (by kernel_rfl) (by kernel_rfl) ?_; (repeat (go_big_quiet_step ((first | (go_at_call 81; exact Calls.regrown_of (isZero_any _ _ (by rw [ByteArray.size_extract]; omega))))))); (with_reducible refine wpQuiet_nil ?_); intro W2 hreg; have hbW2 := below_of_reg hreg; clear hreg; obtain ⟨hcW2, hfW2⟩ := bcell hbW2)
  go_wp2
  go_ret2
  exact ⟨retSB (ins_bl p n A E) (by rw [bl_ext, ← drop_take_sub]; rfl), by (repeat (first | assumption | exact Below.refl _ _ | refine bel_drewN ?_ _ | refine bel_alloc ?_ _ | refine bel_trans ?_ (by assumption) | refine Below.trans ?_ (by assumption)))⟩

set_option maxRecDepth 100000 in
set_option maxHeartbeats 1000000 in
theorem apply_3 (p : ByteArray) (A E : Nat) (o n : ByteArray) (w : World) (hp : p.size = 512) (h1 : n.size = 0) (h2 : o.size ≤ 200) (h3 : A + o.size ≤ E) (h4 : E ≤ 512) :
    Calls Tryd.prog 55 #[.string p, .agg #[.int .i64 3, .int .i64 A, .int .i64 E, .int .i64 0, .string o, .string n]] w fun r w' => r = .returned (.tuple #[.string (opDo p ⟨3, A, E, 0, o, n⟩), .bool (opFit p ⟨3, A, E, 0, o, n⟩)]) ∧ Below w.heap.size w w' := by
  have hp1 : p.size ≤ 3100 := by omega
  have hp2 : (A : Int) ≤ p.size := by omega
  have hp3 : E ≤ p.size := by omega
  have hp4 : (o.size : Int) ≤ (p.size : Int) - A := by omega
  have ho : o.size ≤ 3100 := by omega
  have hn : n.size ≤ 3100 := by omega
  have hz0 : (o ++ n).size = o.size := by rw [ByteArray.size_append]; omega
  have hz1 : (p.extract 0 A ++ p.extract (A + o.size) E).size = E - o.size := by rw [ByteArray.size_append, ByteArray.size_extract, ByteArray.size_extract]; omega
  have hz3 : (bs (zerosL o.size)).size = o.size := zerosL_size _
  have hz2 : (p.extract 0 A ++ p.extract (A + o.size) E ++ bs (zerosL o.size)).size = E := by rw [ByteArray.size_append, hz1, hz3]; omega
  have HP := Lib.hid hp
  have H1 := Lib.hid h1
  clear hp h1
  go_enter Tryd.func55, Tryd.ntmps55
  go_wp2_with (first | ((go_at_call 79; refine (moved_any _ _ _ _ o n _ ho hn).mono ?_; rintro e W1 ⟨rfl, hbW1⟩; obtain ⟨hcW1, hfW1⟩ := bcell hbW1); have hsW1 : w.heap.size < W1.heap.size := (by have h := hbW1.size; simp at h; omega)))
  (refine wp_region_quiet_below (by kernel_rfl) (by kernel_rfl) ?_; (repeat (go_big_quiet_step ((first | (go_at_call 82; exact Calls.regrown_of (zeros_any o.size _ (by omega))))))); (with_reducible refine wpQuiet_nil ?_); intro W2 hreg; have hbW2 := below_of_reg hreg; clear hreg; obtain ⟨hcW2, hfW2⟩ := bcell hbW2)
  go_wp2
  go_ret2
  exact ⟨retSB (rem_bl p A E o.size) (by rw [strEq, bl_cut]; rfl), by (repeat (first | assumption | exact Below.refl _ _ | refine bel_drewN ?_ _ | refine bel_alloc ?_ _ | refine bel_trans ?_ (by assumption) | refine Below.trans ?_ (by assumption)))⟩

set_option maxRecDepth 100000 in
set_option maxHeartbeats 1000000 in
theorem apply_4 (p : ByteArray) (A C : Nat) (o n : ByteArray) (w : World) (hp : p.size = 512) (h1 : o.size = 0) (h2 : n.size = 0) (h3 : A + C ≤ 4096) :
    Calls Tryd.prog 55 #[.string p, .agg #[.int .i64 4, .int .i64 A, .int .i64 0, .int .i64 C, .string o, .string n]] w fun r w' => r = .returned (.tuple #[.string (opDo p ⟨4, A, 0, C, o, n⟩), .bool (opFit p ⟨4, A, 0, C, o, n⟩)]) ∧ Below w.heap.size w w' := by
  have hp1 : p.size ≤ 3100 := by omega
  have hp2 : A + C ≤ 8 * p.size := by omega
  have ho : o.size ≤ 3100 := by omega
  have hn : n.size ≤ 3100 := by omega
  have HP := Lib.hid hp
  clear hp h1 h2
  go_enter Tryd.func55, Tryd.ntmps55
  go_wp2_with (first | ((go_at_call 79; refine (moved_any _ _ _ _ o n _ ho hn).mono ?_; rintro e W1 ⟨rfl, hbW1⟩; obtain ⟨hcW1, hfW1⟩ := bcell hbW1); have hsW1 : w.heap.size < W1.heap.size := (by have h := hbW1.size; simp at h; omega)) | (go_at_call 83; refine (withBits_true p A C _ hp1 hp2).mono ?_; rintro e W2 ⟨rfl, hbW2⟩; obtain ⟨hcW2, hfW2⟩ := bcell hbW2))
  go_ret2
  exact ⟨rfl, by (repeat (first | assumption | exact Below.refl _ _ | refine bel_drewN ?_ _ | refine bel_alloc ?_ _ | refine bel_trans ?_ (by assumption) | refine Below.trans ?_ (by assumption)))⟩
set_option maxRecDepth 100000 in
set_option maxHeartbeats 1000000 in
theorem apply_5 (p : ByteArray) (A C : Nat) (o n : ByteArray) (w : World) (hp : p.size = 512) (h1 : o.size = 0) (h2 : n.size = 0) (h3 : A + C ≤ 4096) :
    Calls Tryd.prog 55 #[.string p, .agg #[.int .i64 5, .int .i64 A, .int .i64 0, .int .i64 C, .string o, .string n]] w fun r w' => r = .returned (.tuple #[.string (opDo p ⟨5, A, 0, C, o, n⟩), .bool (opFit p ⟨5, A, 0, C, o, n⟩)]) ∧ Below w.heap.size w w' := by
  have hp1 : p.size ≤ 3100 := by omega
  have hp2 : A + C ≤ 8 * p.size := by omega
  have ho : o.size ≤ 3100 := by omega
  have hn : n.size ≤ 3100 := by omega
  have HP := Lib.hid hp
  clear hp h1 h2
  go_enter Tryd.func55, Tryd.ntmps55
  go_wp2_with (first | ((go_at_call 79; refine (moved_any _ _ _ _ o n _ ho hn).mono ?_; rintro e W1 ⟨rfl, hbW1⟩; obtain ⟨hcW1, hfW1⟩ := bcell hbW1); have hsW1 : w.heap.size < W1.heap.size := (by have h := hbW1.size; simp at h; omega)) | (go_at_call 83; refine (withBits_false p A C _ hp1 hp2).mono ?_; rintro e W2 ⟨rfl, hbW2⟩; obtain ⟨hcW2, hfW2⟩ := bcell hbW2))
  go_ret2
  exact ⟨rfl, by (repeat (first | assumption | exact Below.refl _ _ | refine bel_drewN ?_ _ | refine bel_alloc ?_ _ | refine bel_trans ?_ (by assumption) | refine Below.trans ?_ (by assumption)))⟩

set_option maxRecDepth 100000 in
set_option maxHeartbeats 1000000 in
theorem apply_6 (p : ByteArray) (o n : ByteArray) (w : World) (ho : o.size ≤ 3100) (hn : n.size ≤ 3100) :
    Calls Tryd.prog 55 #[.string p, .agg #[.int .i64 6, .int .i64 0, .int .i64 0, .int .i64 0, .string o, .string n]] w fun r w' => r = .returned (.tuple #[.string (opDo p ⟨6, 0, 0, 0, o, n⟩), .bool (opFit p ⟨6, 0, 0, 0, o, n⟩)]) ∧ Below w.heap.size w w' := by
  go_enter Tryd.func55, Tryd.ntmps55
  go_wp2_with (first | ((go_at_call 79; refine (moved_any _ _ _ _ o n _ ho hn).mono ?_; rintro e W1 ⟨rfl, hbW1⟩; obtain ⟨hcW1, hfW1⟩ := bcell hbW1); have hsW1 : w.heap.size < W1.heap.size := (by have h := hbW1.size; simp at h; omega)))
  (refine wp_region_quiet_below (by kernel_rfl) (by kernel_rfl) ?_; (repeat (go_big_quiet_step ((first | fail)))); (with_reducible refine wpQuiet_nil ?_); intro W2 hreg; have hbW2 := below_of_reg hreg; clear hreg; obtain ⟨hcW2, hfW2⟩ := bcell hbW2)
  go_wp2
  go_ret2
  exact ⟨retSB rfl (by rw [strEq]; rfl), by (repeat (first | assumption | exact Below.refl _ _ | refine bel_drewN ?_ _ | refine bel_alloc ?_ _ | refine bel_trans ?_ (by assumption) | refine Below.trans ?_ (by assumption)))⟩

set_option maxRecDepth 100000 in
set_option maxHeartbeats 1000000 in
theorem apply_0 (p : ByteArray) (o n : ByteArray) (w : World) (ho : o.size ≤ 3100) (hn : n.size ≤ 3100) :
    Calls Tryd.prog 55 #[.string p, .agg #[.int .i64 0, .int .i64 0, .int .i64 0, .int .i64 0, .string o, .string n]] w fun r w' => r = .returned (.tuple #[.string (opDo p ⟨0, 0, 0, 0, o, n⟩), .bool (opFit p ⟨0, 0, 0, 0, o, n⟩)]) ∧ Below w.heap.size w w' := by
  go_enter Tryd.func55, Tryd.ntmps55
  go_wp2_with (first | ((go_at_call 79; refine (moved_any _ _ _ _ o n _ ho hn).mono ?_; rintro e W1 ⟨rfl, hbW1⟩; obtain ⟨hcW1, hfW1⟩ := bcell hbW1); have hsW1 : w.heap.size < W1.heap.size := (by have h := hbW1.size; simp at h; omega)))
  go_ret2
  exact ⟨rfl, by (repeat (first | assumption | exact Below.refl _ _ | refine bel_drewN ?_ _ | refine bel_alloc ?_ _ | refine bel_trans ?_ (by assumption) | refine Below.trans ?_ (by assumption)))⟩

theorem opOK_sizes {x : Op} (h : opOK x) : x.o.size ≤ 512 ∧ x.n.size ≤ 512 := by unfold opOK at h; omega
theorem apply_any (p : ByteArray) (x : Op) (w : World) (hp : p.size = 512) (h : opOK x) :
    Calls Tryd.prog 55 #[.string p, opV x] w fun r w' => r = .returned (.tuple #[.string (opDo p x), .bool (opFit p x)]) ∧ Below w.heap.size w w' := by
  obtain ⟨k, a, e, c, o, n⟩ := x
  unfold opOK at h
  dsimp only at h
  rcases h with ⟨rfl, rfl, rfl, rfl, ho, hn⟩ | ⟨rfl, rfl, rfl, hs, h1, h2, h3, h4⟩ | ⟨rfl, rfl, ho, h1, h2, h3, h4, h5⟩ | ⟨rfl, rfl, hn, h1, h2, h3, h4, h5⟩ | ⟨hk, rfl, ho, hn, h1, h2, h3, h4⟩ | ⟨rfl, rfl, rfl, rfl, ho, hn⟩
  · exact apply_0 p o n w (by omega) (by omega)
  · obtain ⟨A, rfl⟩ := Int.eq_ofNat_of_zero_le h3
    exact apply_1 p A o n w hp hs h2 (by omega)
  · obtain ⟨A, rfl⟩ := Int.eq_ofNat_of_zero_le h3
    obtain ⟨E, rfl⟩ := Int.eq_ofNat_of_zero_le (show 0 ≤ e by omega)
    exact apply_2 p A E o n w hp ho h2 (by omega) (by omega)
  · obtain ⟨A, rfl⟩ := Int.eq_ofNat_of_zero_le h3
    obtain ⟨E, rfl⟩ := Int.eq_ofNat_of_zero_le (show 0 ≤ e by omega)
    exact apply_3 p A E o n w hp hn h2 (by omega) (by omega)
  · obtain ⟨A, rfl⟩ := Int.eq_ofNat_of_zero_le h1
    obtain ⟨C, rfl⟩ := Int.eq_ofNat_of_zero_le (show 0 ≤ c by omega)
    rcases hk with rfl | rfl
    · exact apply_4 p A C o n w hp ho hn (by omega)
    · exact apply_5 p A C o n w hp ho hn (by omega)
  · exact apply_6 p o n w (by omega) (by omega)
end Go.Proofs.YtgmipogidmcilaaDoor
