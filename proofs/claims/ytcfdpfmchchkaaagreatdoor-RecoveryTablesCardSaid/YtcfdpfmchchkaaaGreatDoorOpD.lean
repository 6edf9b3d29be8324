/-
  Chapter 21: the page after an operation, and whether it fits: apply; Applied and Fits of the reference.
  Chapter 21: kinds, the table of the fields of operations.
  Chapter 21: CheckOp, kind by kind.
-/
import Derived.Test.YtcfdpfmchchkaaaGreatDoorOpC
import Derived.Handy
import Derived.Laws.Tables
import Derived.Laws.CopyOwn
import Derived.Deep.DeepCutAuto
import Derived.Test.YtcfdpfmchchkaaaGreatDoorBoxB
import Derived.Test.YtcfdpfmchchkaaaGreatDoorOpB
namespace Go.Proofs.YtcfdpfmchchkaaaGreatDoor
set_option linter.unusedVariables false
set_option linter.unusedSimpArgs false
open Go.RowKit Go.Sort
theorem bl_ext0 (p : ByteArray) (a : Nat) : bl (p.extract 0 a) = (bl p).take a := by rw [bl_extract, List.drop_zero]
theorem bl_extN (p : ByteArray) (a : Nat) : bl (p.extract a p.size) = (bl p).drop a := by rw [bl_extract, ← bl_length, List.take_length]
theorem bl_ext (p : ByteArray) (a b : Nat) : bl (p.extract a b) = subL (bl p) a b := bl_extract p a b
theorem strEq (s t : ByteArray) : (s.toList == t.toList) = (bl s == bl t) := by rw [toList_eq, toList_eq]
theorem ins_bl (p n : ByteArray) (A E : Nat) : p.extract 0 A ++ n ++ p.extract A E ++ p.extract (E + n.size) p.size = bs (insL (bl p) A E (bl n)) := by
 apply bl_inj
 rw [bl_append, bl_append, bl_append, bl_ext0, bl_extN, bl_extract]; rfl
theorem rem_bl (p : ByteArray) (A E N : Nat) : p.extract 0 A ++ p.extract (A + N) E ++ bs (zerosL N) ++ p.extract E p.size = bs (remL (bl p) A E N) := by
 apply bl_inj
 rw [bl_append, bl_append, bl_append, bl_ext0, bl_extN, bl_extract]; rfl
set_option maxRecDepth 100000 in
set_option maxHeartbeats 1000000 in
theorem apply_1 (p : ByteArray) (A : Nat) (o n : ByteArray) (w : World) (hp : p.size = 512) (h1 : o.size = n.size) (h2 : o.size ≤ 200) (h3 : A + o.size ≤ 512) :
 Calls Tryz.prog 205 #[.string p, .agg #[.int .i64 1, .int .i64 A, .int .i64 0, .int .i64 0, .string o, .string n]] w fun r w' => r = .returned (.tuple #[.string (opDo p ⟨1, A, 0, 0, o, n⟩), .bool (opFit p ⟨1, A, 0, 0, o, n⟩)]) ∧ Below w.heap.size w w' := by
 have hp1 : p.size ≤ 3100 := by omega
 have hp2 : (A : Int) ≤ p.size := by omega
 have hp3 : A + n.size ≤ p.size := by omega
 have hp4 : (o.size : Int) ≤ (p.size : Int) - A := by omega
 have ho : o.size ≤ 3100 := by omega
 have hn : n.size ≤ 3100 := by omega
 have HP := Lib.hid hp
 have H1 := Lib.hid h1
 clear hp h1
 go_enter Tryz.func205, Tryz.ntmps205
 go_wp2_with (first | ((go_at_call 240; refine (moved_any _ _ _ _ o n _ ho hn).mono ?_; rintro e W1 ⟨rfl, hbW1⟩; obtain ⟨hcW1, hfW1⟩ := bcell hbW1); have hsW1 : w.heap.size < W1.heap.size := (by have h := hbW1.size; simp at h; omega)))
 (refine wp_region_quiet_below (by kernel_rfl) (by kernel_rfl) ?_; (repeat (go_big_quiet_step ((first | (go_at_call 215; exact Calls.regrown_of (patched_any p n A _ hp1 hp3)))))); (with_reducible refine wpQuiet_nil ?_); intro W2 hreg; have hbW2 := below_of_reg hreg; clear hreg; obtain ⟨hcW2, hfW2⟩ := bcell hbW2)
 go_wp2
 go_ret2
 exact ⟨retSB rfl (by rw [strEq, bl_cut]; rfl), by (repeat (first | assumption | exact Below.refl _ _ | refine bel_drewN ?_ _ | refine bel_alloc ?_ _ | refine bel_trans ?_ (by assumption) | refine Below.trans ?_ (by assumption)))⟩
set_option maxRecDepth 100000 in
set_option maxHeartbeats 1000000 in
theorem apply_2 (p : ByteArray) (A E : Nat) (o n : ByteArray) (w : World) (hp : p.size = 512) (h1 : o.size = 0) (h2 : n.size ≤ 200) (h3 : A ≤ E) (h4 : E + n.size ≤ 512) :
 Calls Tryz.prog 205 #[.string p, .agg #[.int .i64 2, .int .i64 A, .int .i64 E, .int .i64 0, .string o, .string n]] w fun r w' => r = .returned (.tuple #[.string (opDo p ⟨2, A, E, 0, o, n⟩), .bool (opFit p ⟨2, A, E, 0, o, n⟩)]) ∧ Below w.heap.size w w' := by
 have hp1 : p.size ≤ 3100 := by omega
 have hp2 : (A : Int) ≤ p.size := by omega
 have hp3 : E + n.size ≤ p.size := by omega
 have ho : o.size ≤ 3100 := by omega
 have hn : n.size ≤ 3100 := by omega
 have hz0 : (o ++ n).size = n.size := by rw [ByteArray.size_append]; omega
 have hz1 : (p.extract 0 A ++ n).size = A + n.size := by rw [ByteArray.size_append, ByteArray.size_extract]; omega
 have hz2 : (p.extract 0 A ++ n ++ p.extract A E).size = E + n.size := by rw [ByteArray.size_append, hz1, ByteArray.size_extract]; omega
 have HP := Lib.hid hp
 have H1 := Lib.hid h1
 clear hp h1
 go_enter Tryz.func205, Tryz.ntmps205
 go_wp2_with (first | ((go_at_call 240; refine (moved_any _ _ _ _ o n _ ho hn).mono ?_; rintro e W1 ⟨rfl, hbW1⟩; obtain ⟨hcW1, hfW1⟩ := bcell hbW1); have hsW1 : w.heap.size < W1.heap.size := (by have h := hbW1.size; simp at h; omega)))
 (refine wp_region_quiet_below (by kernel_rfl) (by kernel_rfl) ?_; (repeat (go_big_quiet_step ((first | (go_at_call 241; exact Calls.regrown_of (isZero_any _ _ (by rw [ByteArray.size_extract]; omega))))))); (with_reducible refine wpQuiet_nil ?_); intro W2 hreg; have hbW2 := below_of_reg hreg; clear hreg; obtain ⟨hcW2, hfW2⟩ := bcell hbW2)
 go_wp2
 go_ret2
 exact ⟨retSB (ins_bl p n A E) (by rw [bl_ext, ← drop_take_sub]; rfl), by (repeat (first | assumption | exact Below.refl _ _ | refine bel_drewN ?_ _ | refine bel_alloc ?_ _ | refine bel_trans ?_ (by assumption) | refine Below.trans ?_ (by assumption)))⟩
set_option maxRecDepth 100000 in
set_option maxHeartbeats 1000000 in
theorem apply_3 (p : ByteArray) (A E : Nat) (o n : ByteArray) (w : World) (hp : p.size = 512) (h1 : n.size = 0) (h2 : o.size ≤ 200) (h3 : A + o.size ≤ E) (h4 : E ≤ 512) :
 Calls Tryz.prog 205 #[.string p, .agg #[.int .i64 3, .int .i64 A, .int .i64 E, .int .i64 0, .string o, .string n]] w fun r w' => r = .returned (.tuple #[.string (opDo p ⟨3, A, E, 0, o, n⟩), .bool (opFit p ⟨3, A, E, 0, o, n⟩)]) ∧ Below w.heap.size w w' := by
 have hp1 : p.size ≤ 3100 := by omega
 have hp2 : (A : Int) ≤ p.size := by omega
 have hp3 : E ≤ p.size := by omega
 have hp4 : (o.size : Int) ≤ (p.size : Int) - A := by omega
 have ho : o.size ≤ 3100 := by omega
 have hn : n.size ≤ 3100 := by omega
 have hz0 : (o ++ n).size = o.size := by rw [ByteArray.size_append]; omega
 have hz1 : (p.extract 0 A ++ p.extract (A + o.size) E).size = E - o.size := by rw [ByteArray.size_append, ByteArray.size_extract, ByteArray.size_extract]; omega
 have hz3 : (bs (zerosL o.size)).size = o.size := zerosL_size _
 have hz2 : (p.extract 0 A ++ p.extract (A + o.size) E ++ bs (zerosL o.size)).size = E := by rw [ByteArray.size_append, hz1, hz3]; omega
 have HP := Lib.hid hp
 have H1 := Lib.hid h1
 clear hp h1
 go_enter Tryz.func205, Tryz.ntmps205
 go_wp2_with (first | ((go_at_call 240; refine (moved_any _ _ _ _ o n _ ho hn).mono ?_; rintro e W1 ⟨rfl, hbW1⟩; obtain ⟨hcW1, hfW1⟩ := bcell hbW1); have hsW1 : w.heap.size < W1.heap.size := (by have h := hbW1.size; simp at h; omega)))
 (refine wp_region_quiet_below (by kernel_rfl) (by kernel_rfl) ?_; (repeat (go_big_quiet_step ((first | (go_at_call 242; exact Calls.regrown_of (zeros_any o.size _ (by omega))))))); (with_reducible refine wpQuiet_nil ?_); intro W2 hreg; have hbW2 := below_of_reg hreg; clear hreg; obtain ⟨hcW2, hfW2⟩ := bcell hbW2)
 go_wp2
 go_ret2
 exact ⟨retSB (rem_bl p A E o.size) (by rw [strEq, bl_cut]; rfl), by (repeat (first | assumption | exact Below.refl _ _ | refine bel_drewN ?_ _ | refine bel_alloc ?_ _ | refine bel_trans ?_ (by assumption) | refine Below.trans ?_ (by assumption)))⟩
set_option maxRecDepth 100000 in
set_option maxHeartbeats 1000000 in
theorem apply_4 (p : ByteArray) (A C : Nat) (o n : ByteArray) (w : World) (hp : p.size = 512) (h1 : o.size = 0) (h2 : n.size = 0) (h3 : A + C ≤ 4096) :
 Calls Tryz.prog 205 #[.string p, .agg #[.int .i64 4, .int .i64 A, .int .i64 0, .int .i64 C, .string o, .string n]] w fun r w' => r = .returned (.tuple #[.string (opDo p ⟨4, A, 0, C, o, n⟩), .bool (opFit p ⟨4, A, 0, C, o, n⟩)]) ∧ Below w.heap.size w w' := by
 have hp1 : p.size ≤ 3100 := by omega
 have hp2 : A + C ≤ 8 * p.size := by omega
 have ho : o.size ≤ 3100 := by omega
 have hn : n.size ≤ 3100 := by omega
 have HP := Lib.hid hp
 clear hp h1 h2
 go_enter Tryz.func205, Tryz.ntmps205
 go_wp2_with (first | ((go_at_call 240; refine (moved_any _ _ _ _ o n _ ho hn).mono ?_; rintro e W1 ⟨rfl, hbW1⟩; obtain ⟨hcW1, hfW1⟩ := bcell hbW1); have hsW1 : w.heap.size < W1.heap.size := (by have h := hbW1.size; simp at h; omega)) | (go_at_call 243; refine (withBits_true p A C _ hp1 hp2).mono ?_; rintro e W2 ⟨rfl, hbW2⟩; obtain ⟨hcW2, hfW2⟩ := bcell hbW2))
 go_ret2
 exact ⟨rfl, by (repeat (first | assumption | exact Below.refl _ _ | refine bel_drewN ?_ _ | refine bel_alloc ?_ _ | refine bel_trans ?_ (by assumption) | refine Below.trans ?_ (by assumption)))⟩
set_option maxRecDepth 100000 in
set_option maxHeartbeats 1000000 in
theorem apply_5 (p : ByteArray) (A C : Nat) (o n : ByteArray) (w : World) (hp : p.size = 512) (h1 : o.size = 0) (h2 : n.size = 0) (h3 : A + C ≤ 4096) :
 Calls Tryz.prog 205 #[.string p, .agg #[.int .i64 5, .int .i64 A, .int .i64 0, .int .i64 C, .string o, .string n]] w fun r w' => r = .returned (.tuple #[.string (opDo p ⟨5, A, 0, C, o, n⟩), .bool (opFit p ⟨5, A, 0, C, o, n⟩)]) ∧ Below w.heap.size w w' := by
 have hp1 : p.size ≤ 3100 := by omega
 have hp2 : A + C ≤ 8 * p.size := by omega
 have ho : o.size ≤ 3100 := by omega
 have hn : n.size ≤ 3100 := by omega
 have HP := Lib.hid hp
 clear hp h1 h2
 go_enter Tryz.func205, Tryz.ntmps205
 go_wp2_with (first | ((go_at_call 240; refine (moved_any _ _ _ _ o n _ ho hn).mono ?_; rintro e W1 ⟨rfl, hbW1⟩; obtain ⟨hcW1, hfW1⟩ := bcell hbW1); have hsW1 : w.heap.size < W1.heap.size := (by have h := hbW1.size; simp at h; omega)) | (go_at_call 243; refine (withBits_false p A C _ hp1 hp2).mono ?_; rintro e W2 ⟨rfl, hbW2⟩; obtain ⟨hcW2, hfW2⟩ := bcell hbW2))
 go_ret2
 exact ⟨rfl, by (repeat (first | assumption | exact Below.refl _ _ | refine bel_drewN ?_ _ | refine bel_alloc ?_ _ | refine bel_trans ?_ (by assumption) | refine Below.trans ?_ (by assumption)))⟩
set_option maxRecDepth 100000 in
set_option maxHeartbeats 1000000 in
theorem apply_6 (p : ByteArray) (o n : ByteArray) (w : World) (ho : o.size ≤ 3100) (hn : n.size ≤ 3100) :
 Calls Tryz.prog 205 #[.string p, .agg #[.int .i64 6, .int .i64 0, .int .i64 0, .int .i64 0, .string o, .string n]] w fun r w' => r = .returned (.tuple #[.string (opDo p ⟨6, 0, 0, 0, o, n⟩), .bool (opFit p ⟨6, 0, 0, 0, o, n⟩)]) ∧ Below w.heap.size w w' := by
 go_enter Tryz.func205, Tryz.ntmps205
 go_wp2_with (first | ((go_at_call 240; refine (moved_any _ _ _ _ o n _ ho hn).mono ?_; rintro e W1 ⟨rfl, hbW1⟩; obtain ⟨hcW1, hfW1⟩ := bcell hbW1); have hsW1 : w.heap.size < W1.heap.size := (by have h := hbW1.size; simp at h; omega)))
 (refine wp_region_quiet_below (by kernel_rfl) (by kernel_rfl) ?_; (repeat (go_big_quiet_step ((first | fail)))); (with_reducible refine wpQuiet_nil ?_); intro W2 hreg; have hbW2 := below_of_reg hreg; clear hreg; obtain ⟨hcW2, hfW2⟩ := bcell hbW2)
 go_wp2
 go_ret2
 exact ⟨retSB rfl (by rw [strEq]; rfl), by (repeat (first | assumption | exact Below.refl _ _ | refine bel_drewN ?_ _ | refine bel_alloc ?_ _ | refine bel_trans ?_ (by assumption) | refine Below.trans ?_ (by assumption)))⟩
set_option maxRecDepth 100000 in
set_option maxHeartbeats 1000000 in
theorem apply_0 (p : ByteArray) (o n : ByteArray) (w : World) (ho : o.size ≤ 3100) (hn : n.size ≤ 3100) :
 Calls Tryz.prog 205 #[.string p, .agg #[.int .i64 0, .int .i64 0, .int .i64 0, .int .i64 0, .string o, .string n]] w fun r w' => r = .returned (.tuple #[.string (opDo p ⟨0, 0, 0, 0, o, n⟩), .bool (opFit p ⟨0, 0, 0, 0, o, n⟩)]) ∧ Below w.heap.size w w' := by
 go_enter Tryz.func205, Tryz.ntmps205
 go_wp2_with (first | ((go_at_call 240; refine (moved_any _ _ _ _ o n _ ho hn).mono ?_; rintro e W1 ⟨rfl, hbW1⟩; obtain ⟨hcW1, hfW1⟩ := bcell hbW1); have hsW1 : w.heap.size < W1.heap.size := (by have h := hbW1.size; simp at h; omega)))
 go_ret2
 exact ⟨rfl, by (repeat (first | assumption | exact Below.refl _ _ | refine bel_drewN ?_ _ | refine bel_alloc ?_ _ | refine bel_trans ?_ (by assumption) | refine Below.trans ?_ (by assumption)))⟩
theorem apply_any (p : ByteArray) (x : Op) (w : World) (hp : p.size = 512) (h : opOK x) :
 Calls Tryz.prog 205 #[.string p, opV x] w fun r w' => r = .returned (.tuple #[.string (opDo p x), .bool (opFit p x)]) ∧ Below w.heap.size w w' := by
 obtain ⟨k, a, e, c, o, n⟩ := x
 unfold opOK at h
 dsimp only at h
 rcases h with ⟨rfl, rfl, rfl, rfl, ho, hn⟩ | ⟨rfl, rfl, rfl, hs, h1, h2, h3, h4⟩ | ⟨rfl, rfl, ho, h1, h2, h3, h4, h5⟩ | ⟨rfl, rfl, hn, h1, h2, h3, h4, h5⟩ | ⟨hk, rfl, ho, hn, h1, h2, h3, h4⟩ | ⟨rfl, rfl, rfl, rfl, ho, hn⟩
 · exact apply_0 p o n w (by omega) (by omega)
 · obtain ⟨A, rfl⟩ := Int.eq_ofNat_of_zero_le h3
   exact apply_1 p A o n w hp hs h2 (by omega)
 · obtain ⟨A, rfl⟩ := Int.eq_ofNat_of_zero_le h3
   obtain ⟨E, rfl⟩ := Int.eq_ofNat_of_zero_le (show 0 ≤ e by omega)
   exact apply_2 p A E o n w hp ho h2 (by omega) (by omega)
 · obtain ⟨A, rfl⟩ := Int.eq_ofNat_of_zero_le h3
   obtain ⟨E, rfl⟩ := Int.eq_ofNat_of_zero_le (show 0 ≤ e by omega)
   exact apply_3 p A E o n w hp hn h2 (by omega) (by omega)
 · obtain ⟨A, rfl⟩ := Int.eq_ofNat_of_zero_le h1
   obtain ⟨C, rfl⟩ := Int.eq_ofNat_of_zero_le (show 0 ≤ c by omega)
   rcases hk with rfl | rfl
   · exact apply_4 p A C o n w hp ho hn (by omega)
   · exact apply_5 p A C o n w hp ho hn (by omega)
 · exact apply_6 p o n w (by omega) (by omega)
end Go.Proofs.YtcfdpfmchchkaaaGreatDoor
namespace Go.Proofs.YtcfdpfmchchkaaaGreatDoor
set_option linter.unusedVariables false
set_option linter.unusedSimpArgs false
open Go.RowKit
section
variable {P : Program}
theorem wpList_buildC {ops : Array Oper} {rest : List Oper} {o : Oper} {a : Act} {w : World} {Q : Exit → Act → World → Prop} (hg : o.guard = none) (t : TypeId) (parts : Array (Nat × Operand)) (ho : o.op = .build t parts)
 (cells : Array Value) (hc : P.built t (parts.map fun (i, x) => (i, a.eval x)).toList = some cells)
 (h : wpList P ops Q rest (a.put o.dst (.agg cells)) w) : wpList P ops Q (o :: rest) a w :=
 wpList_build hg t parts ho (by rw [hc]; rfl) (by rw [hc]; exact h)
end
def kindsCells : Array Value := #[.bool false, .bool false, .bool false, .bool false, .bool false, .bool true, .bool false, .bool false, .bool true, .bool true,
 .bool true, .bool true, .bool false, .bool false, .bool true, .bool true, .bool true, .bool false, .bool true, .bool false, .bool true, .bool false, .bool true, .bool false, .bool false,
 .bool true, .bool false, .bool true, .bool false, .bool false, .bool false, .bool false, .bool false, .bool true, .bool true]
def kindsOld : Array Value := Array.replicate 35 (.bool false)
theorem kinds_any (w : World) : Calls Tryz.prog 213 #[] w fun e w' => e = .returned (.agg kindsCells) ∧ Below w.heap.size w w' := by
 go_enter Tryz.func213, Tryz.ntmps213
 go_upto_region 1 with (fail)
 apply wp_region_lit
 refine wpList_buildC rfl 303 _ rfl #[.bool false, .bool false, .bool false, .bool false, .bool false] (by kernel_rfl) ?_
 refine wpList_buildC rfl 303 _ rfl #[.bool true, .bool false, .bool false, .bool true, .bool true] (by kernel_rfl) ?_
 refine wpList_buildC rfl 303 _ rfl #[.bool true, .bool true, .bool false, .bool false, .bool true] (by kernel_rfl) ?_
 refine wpList_buildC rfl 303 _ rfl #[.bool true, .bool true, .bool false, .bool true, .bool false] (by kernel_rfl) ?_
 refine wpList_buildC rfl 303 _ rfl #[.bool true, .bool false, .bool true, .bool false, .bool false] (by kernel_rfl) ?_
 refine wpList_buildC rfl 303 _ rfl #[.bool true, .bool false, .bool true, .bool false, .bool false] (by kernel_rfl) ?_
 refine wpList_buildC rfl 303 _ rfl #[.bool false, .bool false, .bool false, .bool true, .bool true] (by kernel_rfl) ?_
 refine wpList_buildC rfl 304 _ rfl kindsCells (by kernel_rfl) ?_
 refine wpList_store_row rfl 304 _ _ rfl w.heap.size kindsCells (by kernel_rfl) (by kernel_rfl) 304 _ (heap_alloc_new w _) (by kernel_rfl) (by kernel_rfl) (by kernel_rfl) ?_
 apply wpList_nil
 have hr := setRow_heap _ w.heap.size _ kindsCells 304 (0, 0) (heap_alloc_new w (.cells kindsOld 304))
 have hb := below_setRow (g := w.heap.size) (bel_alloc (Below.refl w.heap.size w) (.cells kindsOld 304)) (Nat.le_refl _) kindsCells
 go_wp2
 refine bodyPost_ret (results_cell_row Tryz.results213 _ _ w.heap.size 304 _ (0, 0) _ (by kernel_rfl) hr Tryz.underlying304 rfl (by kernel_rfl)) rfl ?_
 exact ⟨rfl, hb⟩
end Go.Proofs.YtcfdpfmchchkaaaGreatDoor
namespace Go.Proofs.YtcfdpfmchchkaaaGreatDoor
set_option linter.unusedVariables false
set_option linter.unusedSimpArgs false
open Go.RowKit Go.Sort
theorem opE_of {x : Op} {A B C D : Bool} (hk : inB x.k 0 6 = true) (hA : A = opForm x) (hB : B = opShape x) (hC : C = (!opHas x.k || decide (0 < opLong x))) (hD : D = (!opHas x.k || decide (opLong x ≤ 200))) :
 firstE [unl A 3, unl B 10, unl C 17, unl D 8, unl (opRng x) 2] = opE x := by
 unfold opE; rw [hk, if_neg (by decide), hA, hB, hC, hD]
set_option maxRecDepth 100000 in
set_option maxHeartbeats 1000000 in
theorem CheckOp_0 (a e c : Int) (o n : ByteArray) (w : World) (ho : o.size ≤ 3100) (hn : n.size ≤ 3100) :
 Calls Tryz.prog 144 #[.agg #[.int .i64 0, .int .i64 a, .int .i64 e, .int .i64 c, .string o, .string n]] w fun r w' => r = .returned (.int .i64 (opE ⟨0, a, e, c, o, n⟩)) ∧ Below w.heap.size w w' := by
 have hk : inB 0 0 6 = true := rfl
 have hidx : ∀ W, (Instr.index 304 (.agg kindsCells) (.int .i64 0)).run Tryz.prog W = .ok (.agg #[.bool false, .bool false, .bool false, .bool false, .bool false]) W := fun W => by kernel_rfl
 obtain ⟨Ba, hBa⟩ : ∃ b, (a == 0) = b := ⟨_, rfl⟩
 obtain ⟨Be, hBe⟩ : ∃ b, (e == 0) = b := ⟨_, rfl⟩
 obtain ⟨Bc, hBc⟩ : ∃ b, (c == 0) = b := ⟨_, rfl⟩
 obtain ⟨Bo, hBo⟩ : ∃ b, o.toList.isEmpty = b := ⟨_, rfl⟩
 obtain ⟨Bn, hBn⟩ : ∃ b, n.toList.isEmpty = b := ⟨_, rfl⟩
 go_enter Tryz.func144, Tryz.ntmps144
 go_wp2_with (first | (go_at_call 152; refine (logop_within_any _ _ _ _).mono ?_; rintro e w' ⟨rfl, rfl⟩))
 refine wp_region_atail 4 _ (.cells #[.bool false, .bool false, .bool false, .bool false, .bool false] 303) (by kernel_rfl) (by kernel_rfl) rfl (by kernel_rfl) (fun ev X => by kernel_rfl) ?_
 apply Exists.intro
 refine ⟨fun X hX => ?_, ?_⟩
 · obtain ⟨hcX, hfX⟩ := bcell hX
   have hsX : w.heap.size < X.heap.size := by have := hX.size; simp at this; omega
   simp only [List.take_succ_cons, List.take_zero]
   (repeat (go_big_quiet_step ((first | (go_at_call 213; exact Calls.regrown_of (kinds_any _))))))
   exact wpQuiet_nil rfl
 · intro b1 W1 hbW1 hle hblk
   simp only [List.drop_succ_cons, List.drop_zero, Act.put, List.setIfInBounds_toArray, List.set_cons_succ, List.set_cons_zero]
   refine wpList_store_new rfl 303 _ _ rfl rfl b1 _ rfl rfl _ hbW1 hle 303 _ hblk (by kernel_rfl) rfl (by kernel_rfl) ?_
   intro W2 hb2 hbox2 _
   obtain ⟨hcW2, hfW2⟩ := bcell hb2
   have hx2 := hbox2.cells
   have hs2 : w.heap.size < W2.heap.size := by have := hb2.size; simp at this; omega
   clear hbW1 hle hblk hidx
   apply wpList_nil
   go_upto_region 4 with (fail)
   go_cut [4] (fun s4 wx => s4 = .bool (opForm ⟨0, a, e, c, o, n⟩) ∧ W2 = wx)
   case first =>
    go_wp2_with fail
    all_goals
     go_meet
     refine ⟨congrArg Value.bool ?_, rfl⟩
     rw [isEmpty_eq] at hBo hBn
     simp only [opForm, opAt, opEnd, opCount, opOld, opNew, hBa, hBe, hBc, hBo, hBn]
     (try simp_all [inB])
   case rest =>
   obtain ⟨rfl, rfl⟩ := hcut
   obtain ⟨form, hform⟩ : ∃ b, b = opForm ⟨0, a, e, c, o, n⟩ := ⟨_, rfl⟩
   rw [← hform]
   have HForm := Lib.hid hform
   clear hform
   go_upto_region 14 with (fail)
   all_goals
    go_cut [7] (fun s7 wx => s7 = .int .i64 (opLong ⟨0, a, e, c, o, n⟩ : Nat) ∧ W2 = wx)
    case first =>
     go_wp2_with fail
     all_goals
      go_meet
      refine ⟨congrArg (Value.int .i64) ?_, rfl⟩
      simp only [opLong]
      omega
    case rest =>
    obtain ⟨rfl, rfl⟩ := hcut
    obtain ⟨L, hL⟩ : ∃ b, b = opLong ⟨0, a, e, c, o, n⟩ := ⟨_, rfl⟩
    rw [← hL]
    have HL := Lib.hid hL
    clear hL
    go_wp2_with fail
    (refine wp_region_btail 20 (by kernel_rfl) (by kernel_rfl) ?_; simp only [List.take_succ_cons, List.take_zero, List.drop_succ_cons, List.drop_zero]; (repeat (go_big_quiet_step ((first | (go_at_call 151; exact Calls.reg_pure (logop_unless_any _ _ _)) | (go_at_call 214; exact Calls.regrown_of (rangeErr_0 _ _ _ _ _ _ ho hn)))))); (with_reducible refine wpQuiet_nil ?_); intro W3 hreg; have hbW3 := below_of_reg hreg; clear hreg; obtain ⟨hcW3, hfW3⟩ := bcell hbW3)
    go_wp2_with (first | (go_at_call 143; refine (logop_first_list [_, _, _, _, _] W3 (by simp)).mono ?_; rintro e w' ⟨rfl, rfl⟩))
    go_ret
    refine ⟨retI (opE_of rfl HForm.out ?_ ?_ ?_), by (repeat (first | assumption | exact Below.refl _ _ | refine bel_drewN ?_ _ | refine bel_alloc ?_ _ | refine bel_trans ?_ (by assumption) | refine Below.trans ?_ (by assumption)))⟩
    all_goals
     (try rw [← HL.out])
     (try simp only [isEmpty_eq, intBeq])
     rw [Bool.eq_iff_iff]
     (try simp [opShape, opHas, inB, -ByteArray.size_eq_zero_iff])
     (try omega)
set_option maxRecDepth 100000 in
set_option maxHeartbeats 1000000 in
theorem CheckOp_1 (a e c : Int) (o n : ByteArray) (w : World) (ho : o.size ≤ 3100) (hn : n.size ≤ 3100) :
 Calls Tryz.prog 144 #[.agg #[.int .i64 1, .int .i64 a, .int .i64 e, .int .i64 c, .string o, .string n]] w fun r w' => r = .returned (.int .i64 (opE ⟨1, a, e, c, o, n⟩)) ∧ Below w.heap.size w w' := by
 have hk : inB 1 0 6 = true := rfl
 have hidx : ∀ W, (Instr.index 304 (.agg kindsCells) (.int .i64 1)).run Tryz.prog W = .ok (.agg #[.bool true, .bool false, .bool false, .bool true, .bool true]) W := fun W => by kernel_rfl
 obtain ⟨Ba, hBa⟩ : ∃ b, (a == 0) = b := ⟨_, rfl⟩
 obtain ⟨Be, hBe⟩ : ∃ b, (e == 0) = b := ⟨_, rfl⟩
 obtain ⟨Bc, hBc⟩ : ∃ b, (c == 0) = b := ⟨_, rfl⟩
 obtain ⟨Bo, hBo⟩ : ∃ b, o.toList.isEmpty = b := ⟨_, rfl⟩
 obtain ⟨Bn, hBn⟩ : ∃ b, n.toList.isEmpty = b := ⟨_, rfl⟩
 go_enter Tryz.func144, Tryz.ntmps144
 go_wp2_with (first | (go_at_call 152; refine (logop_within_any _ _ _ _).mono ?_; rintro e w' ⟨rfl, rfl⟩))
 refine wp_region_atail 4 _ (.cells #[.bool false, .bool false, .bool false, .bool false, .bool false] 303) (by kernel_rfl) (by kernel_rfl) rfl (by kernel_rfl) (fun ev X => by kernel_rfl) ?_
 apply Exists.intro
 refine ⟨fun X hX => ?_, ?_⟩
 · obtain ⟨hcX, hfX⟩ := bcell hX
   have hsX : w.heap.size < X.heap.size := by have := hX.size; simp at this; omega
   simp only [List.take_succ_cons, List.take_zero]
   (repeat (go_big_quiet_step ((first | (go_at_call 213; exact Calls.regrown_of (kinds_any _))))))
   exact wpQuiet_nil rfl
 · intro b1 W1 hbW1 hle hblk
   simp only [List.drop_succ_cons, List.drop_zero, Act.put, List.setIfInBounds_toArray, List.set_cons_succ, List.set_cons_zero]
   refine wpList_store_new rfl 303 _ _ rfl rfl b1 _ rfl rfl _ hbW1 hle 303 _ hblk (by kernel_rfl) rfl (by kernel_rfl) ?_
   intro W2 hb2 hbox2 _
   obtain ⟨hcW2, hfW2⟩ := bcell hb2
   have hx2 := hbox2.cells
   have hs2 : w.heap.size < W2.heap.size := by have := hb2.size; simp at this; omega
   clear hbW1 hle hblk hidx
   apply wpList_nil
   go_upto_region 4 with (fail)
   go_cut [4] (fun s4 wx => s4 = .bool (opForm ⟨1, a, e, c, o, n⟩) ∧ W2 = wx)
   case first =>
    go_wp2_with fail
    all_goals
     go_meet
     refine ⟨congrArg Value.bool ?_, rfl⟩
     rw [isEmpty_eq] at hBo hBn
     simp only [opForm, opAt, opEnd, opCount, opOld, opNew, hBa, hBe, hBc, hBo, hBn]
     (try simp_all [inB])
   case rest =>
   obtain ⟨rfl, rfl⟩ := hcut
   obtain ⟨form, hform⟩ : ∃ b, b = opForm ⟨1, a, e, c, o, n⟩ := ⟨_, rfl⟩
   rw [← hform]
   have HForm := Lib.hid hform
   clear hform
   go_upto_region 14 with (fail)
   all_goals
    go_cut [7] (fun s7 wx => s7 = .int .i64 (opLong ⟨1, a, e, c, o, n⟩ : Nat) ∧ W2 = wx)
    case first =>
     go_wp2_with fail
     all_goals
      go_meet
      refine ⟨congrArg (Value.int .i64) ?_, rfl⟩
      simp only [opLong]
      omega
    case rest =>
    obtain ⟨rfl, rfl⟩ := hcut
    obtain ⟨L, hL⟩ : ∃ b, b = opLong ⟨1, a, e, c, o, n⟩ := ⟨_, rfl⟩
    rw [← hL]
    have HL := Lib.hid hL
    clear hL
    go_wp2_with fail
    (refine wp_region_btail 20 (by kernel_rfl) (by kernel_rfl) ?_; simp only [List.take_succ_cons, List.take_zero, List.drop_succ_cons, List.drop_zero]; (repeat (go_big_quiet_step ((first | (go_at_call 151; exact Calls.reg_pure (logop_unless_any _ _ _)) | (go_at_call 214; exact Calls.regrown_of (rangeErr_1 _ _ _ _ _ _ ho hn)))))); (with_reducible refine wpQuiet_nil ?_); intro W3 hreg; have hbW3 := below_of_reg hreg; clear hreg; obtain ⟨hcW3, hfW3⟩ := bcell hbW3)
    go_wp2_with (first | (go_at_call 143; refine (logop_first_list [_, _, _, _, _] W3 (by simp)).mono ?_; rintro e w' ⟨rfl, rfl⟩))
    go_ret
    refine ⟨retI (opE_of rfl HForm.out ?_ ?_ ?_), by (repeat (first | assumption | exact Below.refl _ _ | refine bel_drewN ?_ _ | refine bel_alloc ?_ _ | refine bel_trans ?_ (by assumption) | refine Below.trans ?_ (by assumption)))⟩
    all_goals
     (try rw [← HL.out])
     (try simp only [isEmpty_eq, intBeq])
     rw [Bool.eq_iff_iff]
     (try simp [opShape, opHas, inB, -ByteArray.size_eq_zero_iff])
     (try omega)
set_option maxRecDepth 100000 in
set_option maxHeartbeats 1000000 in
theorem CheckOp_2 (a e c : Int) (o n : ByteArray) (w : World) (ho : o.size ≤ 3100) (hn : n.size ≤ 3100) :
 Calls Tryz.prog 144 #[.agg #[.int .i64 2, .int .i64 a, .int .i64 e, .int .i64 c, .string o, .string n]] w fun r w' => r = .returned (.int .i64 (opE ⟨2, a, e, c, o, n⟩)) ∧ Below w.heap.size w w' := by
 have hk : inB 2 0 6 = true := rfl
 have hidx : ∀ W, (Instr.index 304 (.agg kindsCells) (.int .i64 2)).run Tryz.prog W = .ok (.agg #[.bool true, .bool true, .bool false, .bool false, .bool true]) W := fun W => by kernel_rfl
 obtain ⟨Ba, hBa⟩ : ∃ b, (a == 0) = b := ⟨_, rfl⟩
 obtain ⟨Be, hBe⟩ : ∃ b, (e == 0) = b := ⟨_, rfl⟩
 obtain ⟨Bc, hBc⟩ : ∃ b, (c == 0) = b := ⟨_, rfl⟩
 obtain ⟨Bo, hBo⟩ : ∃ b, o.toList.isEmpty = b := ⟨_, rfl⟩
 obtain ⟨Bn, hBn⟩ : ∃ b, n.toList.isEmpty = b := ⟨_, rfl⟩
 go_enter Tryz.func144, Tryz.ntmps144
 go_wp2_with (first | (go_at_call 152; refine (logop_within_any _ _ _ _).mono ?_; rintro e w' ⟨rfl, rfl⟩))
 refine wp_region_atail 4 _ (.cells #[.bool false, .bool false, .bool false, .bool false, .bool false] 303) (by kernel_rfl) (by kernel_rfl) rfl (by kernel_rfl) (fun ev X => by kernel_rfl) ?_
 apply Exists.intro
 refine ⟨fun X hX => ?_, ?_⟩
 · obtain ⟨hcX, hfX⟩ := bcell hX
   have hsX : w.heap.size < X.heap.size := by have := hX.size; simp at this; omega
   simp only [List.take_succ_cons, List.take_zero]
   (repeat (go_big_quiet_step ((first | (go_at_call 213; exact Calls.regrown_of (kinds_any _))))))
   exact wpQuiet_nil rfl
 · intro b1 W1 hbW1 hle hblk
   simp only [List.drop_succ_cons, List.drop_zero, Act.put, List.setIfInBounds_toArray, List.set_cons_succ, List.set_cons_zero]
   refine wpList_store_new rfl 303 _ _ rfl rfl b1 _ rfl rfl _ hbW1 hle 303 _ hblk (by kernel_rfl) rfl (by kernel_rfl) ?_
   intro W2 hb2 hbox2 _
   obtain ⟨hcW2, hfW2⟩ := bcell hb2
   have hx2 := hbox2.cells
   have hs2 : w.heap.size < W2.heap.size := by have := hb2.size; simp at this; omega
   clear hbW1 hle hblk hidx
   apply wpList_nil
   go_upto_region 4 with (fail)
   go_cut [4] (fun s4 wx => s4 = .bool (opForm ⟨2, a, e, c, o, n⟩) ∧ W2 = wx)
   case first =>
    go_wp2_with fail
    all_goals
     go_meet
     refine ⟨congrArg Value.bool ?_, rfl⟩
     rw [isEmpty_eq] at hBo hBn
     simp only [opForm, opAt, opEnd, opCount, opOld, opNew, hBa, hBe, hBc, hBo, hBn]
     (try simp_all [inB])
   case rest =>
   obtain ⟨rfl, rfl⟩ := hcut
   obtain ⟨form, hform⟩ : ∃ b, b = opForm ⟨2, a, e, c, o, n⟩ := ⟨_, rfl⟩
   rw [← hform]
   have HForm := Lib.hid hform
   clear hform
   go_upto_region 14 with (fail)
   all_goals
    go_cut [7] (fun s7 wx => s7 = .int .i64 (opLong ⟨2, a, e, c, o, n⟩ : Nat) ∧ W2 = wx)
    case first =>
     go_wp2_with fail
     all_goals
      go_meet
      refine ⟨congrArg (Value.int .i64) ?_, rfl⟩
      simp only [opLong]
      omega
    case rest =>
    obtain ⟨rfl, rfl⟩ := hcut
    obtain ⟨L, hL⟩ : ∃ b, b = opLong ⟨2, a, e, c, o, n⟩ := ⟨_, rfl⟩
    rw [← hL]
    have HL := Lib.hid hL
    clear hL
    go_wp2_with fail
    (refine wp_region_btail 20 (by kernel_rfl) (by kernel_rfl) ?_; simp only [List.take_succ_cons, List.take_zero, List.drop_succ_cons, List.drop_zero]; (repeat (go_big_quiet_step ((first | (go_at_call 151; exact Calls.reg_pure (logop_unless_any _ _ _)) | (go_at_call 214; exact Calls.regrown_of (rangeErr_2 _ _ _ _ _ _ ho hn)))))); (with_reducible refine wpQuiet_nil ?_); intro W3 hreg; have hbW3 := below_of_reg hreg; clear hreg; obtain ⟨hcW3, hfW3⟩ := bcell hbW3)
    go_wp2_with (first | (go_at_call 143; refine (logop_first_list [_, _, _, _, _] W3 (by simp)).mono ?_; rintro e w' ⟨rfl, rfl⟩))
    go_ret
    refine ⟨retI (opE_of rfl HForm.out ?_ ?_ ?_), by (repeat (first | assumption | exact Below.refl _ _ | refine bel_drewN ?_ _ | refine bel_alloc ?_ _ | refine bel_trans ?_ (by assumption) | refine Below.trans ?_ (by assumption)))⟩
    all_goals
     (try rw [← HL.out])
     (try simp only [isEmpty_eq, intBeq])
     rw [Bool.eq_iff_iff]
     (try simp [opShape, opHas, inB, -ByteArray.size_eq_zero_iff])
     (try omega)
set_option maxRecDepth 100000 in
set_option maxHeartbeats 1000000 in
theorem CheckOp_3 (a e c : Int) (o n : ByteArray) (w : World) (ho : o.size ≤ 3100) (hn : n.size ≤ 3100) :
 Calls Tryz.prog 144 #[.agg #[.int .i64 3, .int .i64 a, .int .i64 e, .int .i64 c, .string o, .string n]] w fun r w' => r = .returned (.int .i64 (opE ⟨3, a, e, c, o, n⟩)) ∧ Below w.heap.size w w' := by
 have hk : inB 3 0 6 = true := rfl
 have hidx : ∀ W, (Instr.index 304 (.agg kindsCells) (.int .i64 3)).run Tryz.prog W = .ok (.agg #[.bool true, .bool true, .bool false, .bool true, .bool false]) W := fun W => by kernel_rfl
 obtain ⟨Ba, hBa⟩ : ∃ b, (a == 0) = b := ⟨_, rfl⟩
 obtain ⟨Be, hBe⟩ : ∃ b, (e == 0) = b := ⟨_, rfl⟩
 obtain ⟨Bc, hBc⟩ : ∃ b, (c == 0) = b := ⟨_, rfl⟩
 obtain ⟨Bo, hBo⟩ : ∃ b, o.toList.isEmpty = b := ⟨_, rfl⟩
 obtain ⟨Bn, hBn⟩ : ∃ b, n.toList.isEmpty = b := ⟨_, rfl⟩
 go_enter Tryz.func144, Tryz.ntmps144
 go_wp2_with (first | (go_at_call 152; refine (logop_within_any _ _ _ _).mono ?_; rintro e w' ⟨rfl, rfl⟩))
 refine wp_region_atail 4 _ (.cells #[.bool false, .bool false, .bool false, .bool false, .bool false] 303) (by kernel_rfl) (by kernel_rfl) rfl (by kernel_rfl) (fun ev X => by kernel_rfl) ?_
 apply Exists.intro
 refine ⟨fun X hX => ?_, ?_⟩
 · obtain ⟨hcX, hfX⟩ := bcell hX
   have hsX : w.heap.size < X.heap.size := by have := hX.size; simp at this; omega
   simp only [List.take_succ_cons, List.take_zero]
   (repeat (go_big_quiet_step ((first | (go_at_call 213; exact Calls.regrown_of (kinds_any _))))))
   exact wpQuiet_nil rfl
 · intro b1 W1 hbW1 hle hblk
   simp only [List.drop_succ_cons, List.drop_zero, Act.put, List.setIfInBounds_toArray, List.set_cons_succ, List.set_cons_zero]
   refine wpList_store_new rfl 303 _ _ rfl rfl b1 _ rfl rfl _ hbW1 hle 303 _ hblk (by kernel_rfl) rfl (by kernel_rfl) ?_
   intro W2 hb2 hbox2 _
   obtain ⟨hcW2, hfW2⟩ := bcell hb2
   have hx2 := hbox2.cells
   have hs2 : w.heap.size < W2.heap.size := by have := hb2.size; simp at this; omega
   clear hbW1 hle hblk hidx
   apply wpList_nil
   go_upto_region 4 with (fail)
   go_cut [4] (fun s4 wx => s4 = .bool (opForm ⟨3, a, e, c, o, n⟩) ∧ W2 = wx)
   case first =>
    go_wp2_with fail
    all_goals
     go_meet
     refine ⟨congrArg Value.bool ?_, rfl⟩
     rw [isEmpty_eq] at hBo hBn
     simp only [opForm, opAt, opEnd, opCount, opOld, opNew, hBa, hBe, hBc, hBo, hBn]
     (try simp_all [inB])
   case rest =>
   obtain ⟨rfl, rfl⟩ := hcut
   obtain ⟨form, hform⟩ : ∃ b, b = opForm ⟨3, a, e, c, o, n⟩ := ⟨_, rfl⟩
   rw [← hform]
   have HForm := Lib.hid hform
   clear hform
   go_upto_region 14 with (fail)
   all_goals
    go_cut [7] (fun s7 wx => s7 = .int .i64 (opLong ⟨3, a, e, c, o, n⟩ : Nat) ∧ W2 = wx)
    case first =>
     go_wp2_with fail
     all_goals
      go_meet
      refine ⟨congrArg (Value.int .i64) ?_, rfl⟩
      simp only [opLong]
      omega
    case rest =>
    obtain ⟨rfl, rfl⟩ := hcut
    obtain ⟨L, hL⟩ : ∃ b, b = opLong ⟨3, a, e, c, o, n⟩ := ⟨_, rfl⟩
    rw [← hL]
    have HL := Lib.hid hL
    clear hL
    go_wp2_with fail
    (refine wp_region_btail 20 (by kernel_rfl) (by kernel_rfl) ?_; simp only [List.take_succ_cons, List.take_zero, List.drop_succ_cons, List.drop_zero]; (repeat (go_big_quiet_step ((first | (go_at_call 151; exact Calls.reg_pure (logop_unless_any _ _ _)) | (go_at_call 214; exact Calls.regrown_of (rangeErr_3 _ _ _ _ _ _ ho hn)))))); (with_reducible refine wpQuiet_nil ?_); intro W3 hreg; have hbW3 := below_of_reg hreg; clear hreg; obtain ⟨hcW3, hfW3⟩ := bcell hbW3)
    go_wp2_with (first | (go_at_call 143; refine (logop_first_list [_, _, _, _, _] W3 (by simp)).mono ?_; rintro e w' ⟨rfl, rfl⟩))
    go_ret
    refine ⟨retI (opE_of rfl HForm.out ?_ ?_ ?_), by (repeat (first | assumption | exact Below.refl _ _ | refine bel_drewN ?_ _ | refine bel_alloc ?_ _ | refine bel_trans ?_ (by assumption) | refine Below.trans ?_ (by assumption)))⟩
    all_goals
     (try rw [← HL.out])
     (try simp only [isEmpty_eq, intBeq])
     rw [Bool.eq_iff_iff]
     (try simp [opShape, opHas, inB, -ByteArray.size_eq_zero_iff])
     (try omega)
set_option maxRecDepth 100000 in
set_option maxHeartbeats 1000000 in
theorem CheckOp_4 (a e c : Int) (o n : ByteArray) (w : World) (ho : o.size ≤ 3100) (hn : n.size ≤ 3100) :
 Calls Tryz.prog 144 #[.agg #[.int .i64 4, .int .i64 a, .int .i64 e, .int .i64 c, .string o, .string n]] w fun r w' => r = .returned (.int .i64 (opE ⟨4, a, e, c, o, n⟩)) ∧ Below w.heap.size w w' := by
 have hk : inB 4 0 6 = true := rfl
 have hidx : ∀ W, (Instr.index 304 (.agg kindsCells) (.int .i64 4)).run Tryz.prog W = .ok (.agg #[.bool true, .bool false, .bool true, .bool false, .bool false]) W := fun W => by kernel_rfl
 obtain ⟨Ba, hBa⟩ : ∃ b, (a == 0) = b := ⟨_, rfl⟩
 obtain ⟨Be, hBe⟩ : ∃ b, (e == 0) = b := ⟨_, rfl⟩
 obtain ⟨Bc, hBc⟩ : ∃ b, (c == 0) = b := ⟨_, rfl⟩
 obtain ⟨Bo, hBo⟩ : ∃ b, o.toList.isEmpty = b := ⟨_, rfl⟩
 obtain ⟨Bn, hBn⟩ : ∃ b, n.toList.isEmpty = b := ⟨_, rfl⟩
 go_enter Tryz.func144, Tryz.ntmps144
 go_wp2_with (first | (go_at_call 152; refine (logop_within_any _ _ _ _).mono ?_; rintro e w' ⟨rfl, rfl⟩))
 refine wp_region_atail 4 _ (.cells #[.bool false, .bool false, .bool false, .bool false, .bool false] 303) (by kernel_rfl) (by kernel_rfl) rfl (by kernel_rfl) (fun ev X => by kernel_rfl) ?_
 apply Exists.intro
 refine ⟨fun X hX => ?_, ?_⟩
 · obtain ⟨hcX, hfX⟩ := bcell hX
   have hsX : w.heap.size < X.heap.size := by have := hX.size; simp at this; omega
   simp only [List.take_succ_cons, List.take_zero]
   (repeat (go_big_quiet_step ((first | (go_at_call 213; exact Calls.regrown_of (kinds_any _))))))
   exact wpQuiet_nil rfl
 · intro b1 W1 hbW1 hle hblk
   simp only [List.drop_succ_cons, List.drop_zero, Act.put, List.setIfInBounds_toArray, List.set_cons_succ, List.set_cons_zero]
   refine wpList_store_new rfl 303 _ _ rfl rfl b1 _ rfl rfl _ hbW1 hle 303 _ hblk (by kernel_rfl) rfl (by kernel_rfl) ?_
   intro W2 hb2 hbox2 _
   obtain ⟨hcW2, hfW2⟩ := bcell hb2
   have hx2 := hbox2.cells
   have hs2 : w.heap.size < W2.heap.size := by have := hb2.size; simp at this; omega
   clear hbW1 hle hblk hidx
   apply wpList_nil
   go_upto_region 4 with (fail)
   go_cut [4] (fun s4 wx => s4 = .bool (opForm ⟨4, a, e, c, o, n⟩) ∧ W2 = wx)
   case first =>
    go_wp2_with fail
    all_goals
     go_meet
     refine ⟨congrArg Value.bool ?_, rfl⟩
     rw [isEmpty_eq] at hBo hBn
     simp only [opForm, opAt, opEnd, opCount, opOld, opNew, hBa, hBe, hBc, hBo, hBn]
     (try simp_all [inB])
   case rest =>
   obtain ⟨rfl, rfl⟩ := hcut
   obtain ⟨form, hform⟩ : ∃ b, b = opForm ⟨4, a, e, c, o, n⟩ := ⟨_, rfl⟩
   rw [← hform]
   have HForm := Lib.hid hform
   clear hform
   go_upto_region 14 with (fail)
   all_goals
    go_cut [7] (fun s7 wx => s7 = .int .i64 (opLong ⟨4, a, e, c, o, n⟩ : Nat) ∧ W2 = wx)
    case first =>
     go_wp2_with fail
     all_goals
      go_meet
      refine ⟨congrArg (Value.int .i64) ?_, rfl⟩
      simp only [opLong]
      omega
    case rest =>
    obtain ⟨rfl, rfl⟩ := hcut
    obtain ⟨L, hL⟩ : ∃ b, b = opLong ⟨4, a, e, c, o, n⟩ := ⟨_, rfl⟩
    rw [← hL]
    have HL := Lib.hid hL
    clear hL
    go_wp2_with fail
    (refine wp_region_btail 20 (by kernel_rfl) (by kernel_rfl) ?_; simp only [List.take_succ_cons, List.take_zero, List.drop_succ_cons, List.drop_zero]; (repeat (go_big_quiet_step ((first | (go_at_call 151; exact Calls.reg_pure (logop_unless_any _ _ _)) | (go_at_call 214; exact Calls.regrown_of (rangeErr_4 _ _ _ _ _ _ ho hn)))))); (with_reducible refine wpQuiet_nil ?_); intro W3 hreg; have hbW3 := below_of_reg hreg; clear hreg; obtain ⟨hcW3, hfW3⟩ := bcell hbW3)
    go_wp2_with (first | (go_at_call 143; refine (logop_first_list [_, _, _, _, _] W3 (by simp)).mono ?_; rintro e w' ⟨rfl, rfl⟩))
    go_ret
    refine ⟨retI (opE_of rfl HForm.out ?_ ?_ ?_), by (repeat (first | assumption | exact Below.refl _ _ | refine bel_drewN ?_ _ | refine bel_alloc ?_ _ | refine bel_trans ?_ (by assumption) | refine Below.trans ?_ (by assumption)))⟩
    all_goals
     (try rw [← HL.out])
     (try simp only [isEmpty_eq, intBeq])
     rw [Bool.eq_iff_iff]
     (try simp [opShape, opHas, inB, -ByteArray.size_eq_zero_iff])
     (try omega)
set_option maxRecDepth 100000 in
set_option maxHeartbeats 1000000 in
theorem CheckOp_5 (a e c : Int) (o n : ByteArray) (w : World) (ho : o.size ≤ 3100) (hn : n.size ≤ 3100) :
 Calls Tryz.prog 144 #[.agg #[.int .i64 5, .int .i64 a, .int .i64 e, .int .i64 c, .string o, .string n]] w fun r w' => r = .returned (.int .i64 (opE ⟨5, a, e, c, o, n⟩)) ∧ Below w.heap.size w w' := by
 have hk : inB 5 0 6 = true := rfl
 have hidx : ∀ W, (Instr.index 304 (.agg kindsCells) (.int .i64 5)).run Tryz.prog W = .ok (.agg #[.bool true, .bool false, .bool true, .bool false, .bool false]) W := fun W => by kernel_rfl
 obtain ⟨Ba, hBa⟩ : ∃ b, (a == 0) = b := ⟨_, rfl⟩
 obtain ⟨Be, hBe⟩ : ∃ b, (e == 0) = b := ⟨_, rfl⟩
 obtain ⟨Bc, hBc⟩ : ∃ b, (c == 0) = b := ⟨_, rfl⟩
 obtain ⟨Bo, hBo⟩ : ∃ b, o.toList.isEmpty = b := ⟨_, rfl⟩
 obtain ⟨Bn, hBn⟩ : ∃ b, n.toList.isEmpty = b := ⟨_, rfl⟩
 go_enter Tryz.func144, Tryz.ntmps144
 go_wp2_with (first | (go_at_call 152; refine (logop_within_any _ _ _ _).mono ?_; rintro e w' ⟨rfl, rfl⟩))
 refine wp_region_atail 4 _ (.cells #[.bool false, .bool false, .bool false, .bool false, .bool false] 303) (by kernel_rfl) (by kernel_rfl) rfl (by kernel_rfl) (fun ev X => by kernel_rfl) ?_
 apply Exists.intro
 refine ⟨fun X hX => ?_, ?_⟩
 · obtain ⟨hcX, hfX⟩ := bcell hX
   have hsX : w.heap.size < X.heap.size := by have := hX.size; simp at this; omega
   simp only [List.take_succ_cons, List.take_zero]
   (repeat (go_big_quiet_step ((first | (go_at_call 213; exact Calls.regrown_of (kinds_any _))))))
   exact wpQuiet_nil rfl
 · intro b1 W1 hbW1 hle hblk
   simp only [List.drop_succ_cons, List.drop_zero, Act.put, List.setIfInBounds_toArray, List.set_cons_succ, List.set_cons_zero]
   refine wpList_store_new rfl 303 _ _ rfl rfl b1 _ rfl rfl _ hbW1 hle 303 _ hblk (by kernel_rfl) rfl (by kernel_rfl) ?_
   intro W2 hb2 hbox2 _
   obtain ⟨hcW2, hfW2⟩ := bcell hb2
   have hx2 := hbox2.cells
   have hs2 : w.heap.size < W2.heap.size := by have := hb2.size; simp at this; omega
   clear hbW1 hle hblk hidx
   apply wpList_nil
   go_upto_region 4 with (fail)
   go_cut [4] (fun s4 wx => s4 = .bool (opForm ⟨5, a, e, c, o, n⟩) ∧ W2 = wx)
   case first =>
    go_wp2_with fail
    all_goals
     go_meet
     refine ⟨congrArg Value.bool ?_, rfl⟩
     rw [isEmpty_eq] at hBo hBn
     simp only [opForm, opAt, opEnd, opCount, opOld, opNew, hBa, hBe, hBc, hBo, hBn]
     (try simp_all [inB])
   case rest =>
   obtain ⟨rfl, rfl⟩ := hcut
   obtain ⟨form, hform⟩ : ∃ b, b = opForm ⟨5, a, e, c, o, n⟩ := ⟨_, rfl⟩
   rw [← hform]
   have HForm := Lib.hid hform
   clear hform
   go_upto_region 14 with (fail)
   all_goals
    go_cut [7] (fun s7 wx => s7 = .int .i64 (opLong ⟨5, a, e, c, o, n⟩ : Nat) ∧ W2 = wx)
    case first =>
     go_wp2_with fail
     all_goals
      go_meet
      refine ⟨congrArg (Value.int .i64) ?_, rfl⟩
      simp only [opLong]
      omega
    case rest =>
    obtain ⟨rfl, rfl⟩ := hcut
    obtain ⟨L, hL⟩ : ∃ b, b = opLong ⟨5, a, e, c, o, n⟩ := ⟨_, rfl⟩
    rw [← hL]
    have HL := Lib.hid hL
    clear hL
    go_wp2_with fail
    (refine wp_region_btail 20 (by kernel_rfl) (by kernel_rfl) ?_; simp only [List.take_succ_cons, List.take_zero, List.drop_succ_cons, List.drop_zero]; (repeat (go_big_quiet_step ((first | (go_at_call 151; exact Calls.reg_pure (logop_unless_any _ _ _)) | (go_at_call 214; exact Calls.regrown_of (rangeErr_5 _ _ _ _ _ _ ho hn)))))); (with_reducible refine wpQuiet_nil ?_); intro W3 hreg; have hbW3 := below_of_reg hreg; clear hreg; obtain ⟨hcW3, hfW3⟩ := bcell hbW3)
    go_wp2_with (first | (go_at_call 143; refine (logop_first_list [_, _, _, _, _] W3 (by simp)).mono ?_; rintro e w' ⟨rfl, rfl⟩))
    go_ret
    refine ⟨retI (opE_of rfl HForm.out ?_ ?_ ?_), by (repeat (first | assumption | exact Below.refl _ _ | refine bel_drewN ?_ _ | refine bel_alloc ?_ _ | refine bel_trans ?_ (by assumption) | refine Below.trans ?_ (by assumption)))⟩
    all_goals
     (try rw [← HL.out])
     (try simp only [isEmpty_eq, intBeq])
     rw [Bool.eq_iff_iff]
     (try simp [opShape, opHas, inB, -ByteArray.size_eq_zero_iff])
     (try omega)
set_option maxRecDepth 100000 in
set_option maxHeartbeats 1000000 in
theorem CheckOp_6 (a e c : Int) (o n : ByteArray) (w : World) (ho : o.size ≤ 3100) (hn : n.size ≤ 3100) :
 Calls Tryz.prog 144 #[.agg #[.int .i64 6, .int .i64 a, .int .i64 e, .int .i64 c, .string o, .string n]] w fun r w' => r = .returned (.int .i64 (opE ⟨6, a, e, c, o, n⟩)) ∧ Below w.heap.size w w' := by
 have hk : inB 6 0 6 = true := rfl
 have hidx : ∀ W, (Instr.index 304 (.agg kindsCells) (.int .i64 6)).run Tryz.prog W = .ok (.agg #[.bool false, .bool false, .bool false, .bool true, .bool true]) W := fun W => by kernel_rfl
 obtain ⟨Ba, hBa⟩ : ∃ b, (a == 0) = b := ⟨_, rfl⟩
 obtain ⟨Be, hBe⟩ : ∃ b, (e == 0) = b := ⟨_, rfl⟩
 obtain ⟨Bc, hBc⟩ : ∃ b, (c == 0) = b := ⟨_, rfl⟩
 obtain ⟨Bo, hBo⟩ : ∃ b, o.toList.isEmpty = b := ⟨_, rfl⟩
 obtain ⟨Bn, hBn⟩ : ∃ b, n.toList.isEmpty = b := ⟨_, rfl⟩
 go_enter Tryz.func144, Tryz.ntmps144
 go_wp2_with (first | (go_at_call 152; refine (logop_within_any _ _ _ _).mono ?_; rintro e w' ⟨rfl, rfl⟩))
 refine wp_region_atail 4 _ (.cells #[.bool false, .bool false, .bool false, .bool false, .bool false] 303) (by kernel_rfl) (by kernel_rfl) rfl (by kernel_rfl) (fun ev X => by kernel_rfl) ?_
 apply Exists.intro
 refine ⟨fun X hX => ?_, ?_⟩
 · obtain ⟨hcX, hfX⟩ := bcell hX
   have hsX : w.heap.size < X.heap.size := by have := hX.size; simp at this; omega
   simp only [List.take_succ_cons, List.take_zero]
   (repeat (go_big_quiet_step ((first | (go_at_call 213; exact Calls.regrown_of (kinds_any _))))))
   exact wpQuiet_nil rfl
 · intro b1 W1 hbW1 hle hblk
   simp only [List.drop_succ_cons, List.drop_zero, Act.put, List.setIfInBounds_toArray, List.set_cons_succ, List.set_cons_zero]
   refine wpList_store_new rfl 303 _ _ rfl rfl b1 _ rfl rfl _ hbW1 hle 303 _ hblk (by kernel_rfl) rfl (by kernel_rfl) ?_
   intro W2 hb2 hbox2 _
   obtain ⟨hcW2, hfW2⟩ := bcell hb2
   have hx2 := hbox2.cells
   have hs2 : w.heap.size < W2.heap.size := by have := hb2.size; simp at this; omega
   clear hbW1 hle hblk hidx
   apply wpList_nil
   go_upto_region 4 with (fail)
   go_cut [4] (fun s4 wx => s4 = .bool (opForm ⟨6, a, e, c, o, n⟩) ∧ W2 = wx)
   case first =>
    go_wp2_with fail
    all_goals
     go_meet
     refine ⟨congrArg Value.bool ?_, rfl⟩
     rw [isEmpty_eq] at hBo hBn
     simp only [opForm, opAt, opEnd, opCount, opOld, opNew, hBa, hBe, hBc, hBo, hBn]
     (try simp_all [inB])
   case rest =>
   obtain ⟨rfl, rfl⟩ := hcut
   obtain ⟨form, hform⟩ : ∃ b, b = opForm ⟨6, a, e, c, o, n⟩ := ⟨_, rfl⟩
   rw [← hform]
   have HForm := Lib.hid hform
   clear hform
   go_upto_region 14 with (fail)
   all_goals
    go_cut [7] (fun s7 wx => s7 = .int .i64 (opLong ⟨6, a, e, c, o, n⟩ : Nat) ∧ W2 = wx)
    case first =>
     go_wp2_with fail
     all_goals
      go_meet
      refine ⟨congrArg (Value.int .i64) ?_, rfl⟩
      simp only [opLong]
      omega
    case rest =>
    obtain ⟨rfl, rfl⟩ := hcut
    obtain ⟨L, hL⟩ : ∃ b, b = opLong ⟨6, a, e, c, o, n⟩ := ⟨_, rfl⟩
    rw [← hL]
    have HL := Lib.hid hL
    clear hL
    go_wp2_with fail
    (refine wp_region_btail 20 (by kernel_rfl) (by kernel_rfl) ?_; simp only [List.take_succ_cons, List.take_zero, List.drop_succ_cons, List.drop_zero]; (repeat (go_big_quiet_step ((first | (go_at_call 151; exact Calls.reg_pure (logop_unless_any _ _ _)) | (go_at_call 214; exact Calls.regrown_of (rangeErr_6 _ _ _ _ _ _ ho hn)))))); (with_reducible refine wpQuiet_nil ?_); intro W3 hreg; have hbW3 := below_of_reg hreg; clear hreg; obtain ⟨hcW3, hfW3⟩ := bcell hbW3)
    go_wp2_with (first | (go_at_call 143; refine (logop_first_list [_, _, _, _, _] W3 (by simp)).mono ?_; rintro e w' ⟨rfl, rfl⟩))
    go_ret
    refine ⟨retI (opE_of rfl HForm.out ?_ ?_ ?_), by (repeat (first | assumption | exact Below.refl _ _ | refine bel_drewN ?_ _ | refine bel_alloc ?_ _ | refine bel_trans ?_ (by assumption) | refine Below.trans ?_ (by assumption)))⟩
    all_goals
     (try rw [← HL.out])
     (try simp only [isEmpty_eq, intBeq])
     rw [Bool.eq_iff_iff]
     (try simp [opShape, opHas, inB, -ByteArray.size_eq_zero_iff])
     (try omega)
end Go.Proofs.YtcfdpfmchchkaaaGreatDoor
