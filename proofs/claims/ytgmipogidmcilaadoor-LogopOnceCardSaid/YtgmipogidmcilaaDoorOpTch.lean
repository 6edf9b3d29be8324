/-
  Chapter 21: the bytes that an operation touches; Apart.
-/
import Derived.Test.YtgmipogidmcilaaDoorOpAll
namespace Go.Proofs.YtgmipogidmcilaaDoor
set_option linter.unusedVariables false
set_option linter.unusedSimpArgs false
open Go.RowKit Go.Sort

set_option maxRecDepth 100000 in
set_option maxHeartbeats 1000000 in
theorem tch_0 (a e c : Int) (o n : ByteArray) (w : World) (ho : o.size ≤ 3100) (hn : n.size ≤ 3100) :
    Calls Tryd.prog 64 #[.agg #[.int .i64 0, .int .i64 a, .int .i64 e, .int .i64 c, .string o, .string n]] w fun r w' => r = .returned (.tuple #[.int .i64 0, .int .i64 0]) ∧ Below w.heap.size w w' := by
  go_enter Tryd.func64, Tryd.ntmps64
  go_wp2
  go_ret2
  exact ⟨rfl, by (repeat (first | assumption | exact Below.refl _ _ | refine bel_drewN ?_ _ | refine bel_alloc ?_ _ | refine bel_trans ?_ (by assumption) | refine Below.trans ?_ (by assumption)))⟩
set_option maxRecDepth 100000 in
set_option maxHeartbeats 1000000 in
theorem tch_6 (a e c : Int) (o n : ByteArray) (w : World) (ho : o.size ≤ 3100) (hn : n.size ≤ 3100) :
    Calls Tryd.prog 64 #[.agg #[.int .i64 6, .int .i64 a, .int .i64 e, .int .i64 c, .string o, .string n]] w fun r w' => r = .returned (.tuple #[.int .i64 0, .int .i64 512]) ∧ Below w.heap.size w w' := by
  go_enter Tryd.func64, Tryd.ntmps64
  go_wp2
  go_ret2
  exact ⟨rfl, by (repeat (first | assumption | exact Below.refl _ _ | refine bel_drewN ?_ _ | refine bel_alloc ?_ _ | refine bel_trans ?_ (by assumption) | refine Below.trans ?_ (by assumption)))⟩
set_option maxRecDepth 100000 in
set_option maxHeartbeats 1000000 in
theorem tch_1 (a e c : Int) (o n : ByteArray) (w : World) (ho : o.size ≤ 3100) (hn : n.size ≤ 3100) (h0 : 0 ≤ a) (h1 : a ≤ 4096) :
    Calls Tryd.prog 64 #[.agg #[.int .i64 1, .int .i64 a, .int .i64 e, .int .i64 c, .string o, .string n]] w fun r w' => r = .returned (.tuple #[.int .i64 a, .int .i64 (a + o.size)]) ∧ Below w.heap.size w w' := by
  go_enter Tryd.func64, Tryd.ntmps64
  go_wp2
  go_quiet (fail)
  go_wp2
  go_ret2
  exact ⟨rfl, by (repeat (first | assumption | exact Below.refl _ _ | refine bel_drewN ?_ _ | refine bel_alloc ?_ _ | refine bel_trans ?_ (by assumption) | refine Below.trans ?_ (by assumption)))⟩
set_option maxRecDepth 100000 in
set_option maxHeartbeats 1000000 in
theorem tch_2 (a e c : Int) (o n : ByteArray) (w : World) (ho : o.size ≤ 3100) (hn : n.size ≤ 3100) (h0 : 0 ≤ e) (h1 : e ≤ 4096) :
    Calls Tryd.prog 64 #[.agg #[.int .i64 2, .int .i64 a, .int .i64 e, .int .i64 c, .string o, .string n]] w fun r w' => r = .returned (.tuple #[.int .i64 a, .int .i64 (e + n.size)]) ∧ Below w.heap.size w w' := by
  go_enter Tryd.func64, Tryd.ntmps64
  go_wp2
  go_quiet (fail)
  go_wp2
  go_ret2
  exact ⟨rfl, by (repeat (first | assumption | exact Below.refl _ _ | refine bel_drewN ?_ _ | refine bel_alloc ?_ _ | refine bel_trans ?_ (by assumption) | refine Below.trans ?_ (by assumption)))⟩
set_option maxRecDepth 100000 in
set_option maxHeartbeats 1000000 in
theorem tch_3 (a e c : Int) (o n : ByteArray) (w : World) (ho : o.size ≤ 3100) (hn : n.size ≤ 3100) :
    Calls Tryd.prog 64 #[.agg #[.int .i64 3, .int .i64 a, .int .i64 e, .int .i64 c, .string o, .string n]] w fun r w' => r = .returned (.tuple #[.int .i64 a, .int .i64 e]) ∧ Below w.heap.size w w' := by
  go_enter Tryd.func64, Tryd.ntmps64
  go_wp2
  go_quiet (fail)
  go_wp2
  go_ret2
  exact ⟨rfl, by (repeat (first | assumption | exact Below.refl _ _ | refine bel_drewN ?_ _ | refine bel_alloc ?_ _ | refine bel_trans ?_ (by assumption) | refine Below.trans ?_ (by assumption)))⟩
set_option maxRecDepth 100000 in
set_option maxHeartbeats 1000000 in
theorem reftch_0 (a e c : Int) (o n : ByteArray) (w : World) (ho : o.size ≤ 3100) (hn : n.size ≤ 3100) :
    Calls Tryd.prog 44 #[.agg #[.int .i64 0, .int .i64 a, .int .i64 e, .int .i64 c, .string o, .string n]] w fun r w' => r = .returned (.tuple #[.int .i64 0, .int .i64 0]) ∧ Below w.heap.size w w' := by
  go_enter Tryd.func44, Tryd.ntmps44
  go_wp2
  go_ret2
  exact ⟨rfl, by (repeat (first | assumption | exact Below.refl _ _ | refine bel_drewN ?_ _ | refine bel_alloc ?_ _ | refine bel_trans ?_ (by assumption) | refine Below.trans ?_ (by assumption)))⟩
set_option maxRecDepth 100000 in
set_option maxHeartbeats 1000000 in
theorem reftch_6 (a e c : Int) (o n : ByteArray) (w : World) (ho : o.size ≤ 3100) (hn : n.size ≤ 3100) :
    Calls Tryd.prog 44 #[.agg #[.int .i64 6, .int .i64 a, .int .i64 e, .int .i64 c, .string o, .string n]] w fun r w' => r = .returned (.tuple #[.int .i64 0, .int .i64 512]) ∧ Below w.heap.size w w' := by
  go_enter Tryd.func44, Tryd.ntmps44
  go_wp2
  go_ret2
  exact ⟨rfl, by (repeat (first | assumption | exact Below.refl _ _ | refine bel_drewN ?_ _ | refine bel_alloc ?_ _ | refine bel_trans ?_ (by assumption) | refine Below.trans ?_ (by assumption)))⟩
set_option maxRecDepth 100000 in
set_option maxHeartbeats 1000000 in
theorem reftch_1 (a e c : Int) (o n : ByteArray) (w : World) (ho : o.size ≤ 3100) (hn : n.size ≤ 3100) (h0 : 0 ≤ a) (h1 : a ≤ 4096) :
    Calls Tryd.prog 44 #[.agg #[.int .i64 1, .int .i64 a, .int .i64 e, .int .i64 c, .string o, .string n]] w fun r w' => r = .returned (.tuple #[.int .i64 a, .int .i64 (a + o.size)]) ∧ Below w.heap.size w w' := by
  go_enter Tryd.func44, Tryd.ntmps44
  go_wp2
  go_quiet (fail)
  go_wp2
  go_ret2
  exact ⟨rfl, by (repeat (first | assumption | exact Below.refl _ _ | refine bel_drewN ?_ _ | refine bel_alloc ?_ _ | refine bel_trans ?_ (by assumption) | refine Below.trans ?_ (by assumption)))⟩
set_option maxRecDepth 100000 in
set_option maxHeartbeats 1000000 in
theorem reftch_2 (a e c : Int) (o n : ByteArray) (w : World) (ho : o.size ≤ 3100) (hn : n.size ≤ 3100) (h0 : 0 ≤ e) (h1 : e ≤ 4096) :
    Calls Tryd.prog 44 #[.agg #[.int .i64 2, .int .i64 a, .int .i64 e, .int .i64 c, .string o, .string n]] w fun r w' => r = .returned (.tuple #[.int .i64 a, .int .i64 (e + n.size)]) ∧ Below w.heap.size w w' := by
  go_enter Tryd.func44, Tryd.ntmps44
  go_wp2
  go_quiet (fail)
  go_wp2
  go_ret2
  exact ⟨rfl, by (repeat (first | assumption | exact Below.refl _ _ | refine bel_drewN ?_ _ | refine bel_alloc ?_ _ | refine bel_trans ?_ (by assumption) | refine Below.trans ?_ (by assumption)))⟩
set_option maxRecDepth 100000 in
set_option maxHeartbeats 1000000 in
theorem reftch_3 (a e c : Int) (o n : ByteArray) (w : World) (ho : o.size ≤ 3100) (hn : n.size ≤ 3100) :
    Calls Tryd.prog 44 #[.agg #[.int .i64 3, .int .i64 a, .int .i64 e, .int .i64 c, .string o, .string n]] w fun r w' => r = .returned (.tuple #[.int .i64 a, .int .i64 e]) ∧ Below w.heap.size w w' := by
  go_enter Tryd.func44, Tryd.ntmps44
  go_wp2
  go_quiet (fail)
  go_wp2
  go_ret2
  exact ⟨rfl, by (repeat (first | assumption | exact Below.refl _ _ | refine bel_drewN ?_ _ | refine bel_alloc ?_ _ | refine bel_trans ?_ (by assumption) | refine Below.trans ?_ (by assumption)))⟩
set_option maxRecDepth 100000 in
set_option maxHeartbeats 1000000 in
theorem tch_4 (a e c : Int) (o n : ByteArray) (w : World) (ho : o.size ≤ 3100) (hn : n.size ≤ 3100) (h0 : 0 ≤ a) (h1 : a ≤ 4096) (h2 : 1 ≤ c) (h3 : c ≤ 4096) :
    Calls Tryd.prog 64 #[.agg #[.int .i64 4, .int .i64 a, .int .i64 e, .int .i64 c, .string o, .string n]] w fun r w' => r = .returned (.tuple #[.int .i64 (a / 8), .int .i64 ((a + c - 1) / 8 + 1)]) ∧ Below w.heap.size w w' := by
  have q1 : Int.tdiv a 8 = a / 8 := Int.tdiv_eq_ediv_of_nonneg h0
  have q2 : Int.tdiv (a + c - 1) 8 = (a + c - 1) / 8 := Int.tdiv_eq_ediv_of_nonneg (by omega)
  go_enter Tryd.func64, Tryd.ntmps64
  go_wp2
  go_quiet (fail)
  go_wp2
  go_ret2
  exact ⟨by rfl, by (repeat (first | assumption | exact Below.refl _ _ | refine bel_drewN ?_ _ | refine bel_alloc ?_ _ | refine bel_trans ?_ (by assumption) | refine Below.trans ?_ (by assumption)))⟩
set_option maxRecDepth 100000 in
set_option maxHeartbeats 1000000 in
theorem reftch_4 (a e c : Int) (o n : ByteArray) (w : World) (ho : o.size ≤ 3100) (hn : n.size ≤ 3100) (h0 : 0 ≤ a) (h1 : a ≤ 4096) (h2 : 1 ≤ c) (h3 : c ≤ 4096) :
    Calls Tryd.prog 44 #[.agg #[.int .i64 4, .int .i64 a, .int .i64 e, .int .i64 c, .string o, .string n]] w fun r w' => r = .returned (.tuple #[.int .i64 (a / 8), .int .i64 ((a + c - 1) / 8 + 1)]) ∧ Below w.heap.size w w' := by
  have q1 : Int.tdiv a 8 = a / 8 := Int.tdiv_eq_ediv_of_nonneg h0
  have q2 : Int.tdiv (a + c - 1) 8 = (a + c - 1) / 8 := Int.tdiv_eq_ediv_of_nonneg (by omega)
  go_enter Tryd.func44, Tryd.ntmps44
  go_wp2
  go_quiet (fail)
  go_wp2
  go_ret2
  exact ⟨by rfl, by (repeat (first | assumption | exact Below.refl _ _ | refine bel_drewN ?_ _ | refine bel_alloc ?_ _ | refine bel_trans ?_ (by assumption) | refine Below.trans ?_ (by assumption)))⟩
set_option maxRecDepth 100000 in
set_option maxHeartbeats 1000000 in
theorem tch_5 (a e c : Int) (o n : ByteArray) (w : World) (ho : o.size ≤ 3100) (hn : n.size ≤ 3100) (h0 : 0 ≤ a) (h1 : a ≤ 4096) (h2 : 1 ≤ c) (h3 : c ≤ 4096) :
    Calls Tryd.prog 64 #[.agg #[.int .i64 5, .int .i64 a, .int .i64 e, .int .i64 c, .string o, .string n]] w fun r w' => r = .returned (.tuple #[.int .i64 (a / 8), .int .i64 ((a + c - 1) / 8 + 1)]) ∧ Below w.heap.size w w' := by
  have q1 : Int.tdiv a 8 = a / 8 := Int.tdiv_eq_ediv_of_nonneg h0
  have q2 : Int.tdiv (a + c - 1) 8 = (a + c - 1) / 8 := Int.tdiv_eq_ediv_of_nonneg (by omega)
  go_enter Tryd.func64, Tryd.ntmps64
  go_wp2
  go_quiet (fail)
  go_wp2
  go_ret2
  exact ⟨by rfl, by (repeat (first | assumption | exact Below.refl _ _ | refine bel_drewN ?_ _ | refine bel_alloc ?_ _ | refine bel_trans ?_ (by assumption) | refine Below.trans ?_ (by assumption)))⟩
set_option maxRecDepth 100000 in
set_option maxHeartbeats 1000000 in
theorem reftch_5 (a e c : Int) (o n : ByteArray) (w : World) (ho : o.size ≤ 3100) (hn : n.size ≤ 3100) (h0 : 0 ≤ a) (h1 : a ≤ 4096) (h2 : 1 ≤ c) (h3 : c ≤ 4096) :
    Calls Tryd.prog 44 #[.agg #[.int .i64 5, .int .i64 a, .int .i64 e, .int .i64 c, .string o, .string n]] w fun r w' => r = .returned (.tuple #[.int .i64 (a / 8), .int .i64 ((a + c - 1) / 8 + 1)]) ∧ Below w.heap.size w w' := by
  have q1 : Int.tdiv a 8 = a / 8 := Int.tdiv_eq_ediv_of_nonneg h0
  have q2 : Int.tdiv (a + c - 1) 8 = (a + c - 1) / 8 := Int.tdiv_eq_ediv_of_nonneg (by omega)
  go_enter Tryd.func44, Tryd.ntmps44
  go_wp2
  go_quiet (fail)
  go_wp2
  go_ret2
  exact ⟨by rfl, by (repeat (first | assumption | exact Below.refl _ _ | refine bel_drewN ?_ _ | refine bel_alloc ?_ _ | refine bel_trans ?_ (by assumption) | refine Below.trans ?_ (by assumption)))⟩
theorem tch_any (x : Op) (w : World) (h : opOK x) :
    Calls Tryd.prog 64 #[opV x] w fun r w' => r = .returned (.tuple #[.int .i64 (opTch x).1, .int .i64 (opTch x).2]) ∧ Below w.heap.size w w' := by
  obtain ⟨k, a, e, c, o, n⟩ := x
  unfold opOK at h
  dsimp only at h
  rcases h with ⟨rfl, rfl, rfl, rfl, ho, hn⟩ | ⟨rfl, rfl, rfl, hs, h1, h2, h3, h4⟩ | ⟨rfl, rfl, ho, h1, h2, h3, h4, h5⟩ | ⟨rfl, rfl, hn, h1, h2, h3, h4, h5⟩ | ⟨hk, rfl, ho, hn, h1, h2, h3, h4⟩ | ⟨rfl, rfl, rfl, rfl, ho, hn⟩
  all_goals (try dsimp only at *)
  · exact tch_0 0 0 0 o n w (by omega) (by omega)
  · exact tch_1 a 0 0 o n w (by omega) (by omega) h3 (by omega)
  · exact tch_2 a e 0 o n w (by omega) (by omega) (by omega) (by omega)
  · exact tch_3 a e 0 o n w (by omega) (by omega)
  · rcases hk with rfl | rfl
    · exact tch_4 a 0 c o n w (by omega) (by omega) h1 (by omega) h3 (by omega)
    · exact tch_5 a 0 c o n w (by omega) (by omega) h1 (by omega) h3 (by omega)
  · exact tch_6 0 0 0 o n w (by omega) (by omega)
theorem reftch_any (x : Op) (w : World) (h : opOK x) :
    Calls Tryd.prog 44 #[opV x] w fun r w' => r = .returned (.tuple #[.int .i64 (opTch x).1, .int .i64 (opTch x).2]) ∧ Below w.heap.size w w' := by
  obtain ⟨k, a, e, c, o, n⟩ := x
  unfold opOK at h
  dsimp only at h
  rcases h with ⟨rfl, rfl, rfl, rfl, ho, hn⟩ | ⟨rfl, rfl, rfl, hs, h1, h2, h3, h4⟩ | ⟨rfl, rfl, ho, h1, h2, h3, h4, h5⟩ | ⟨rfl, rfl, hn, h1, h2, h3, h4, h5⟩ | ⟨hk, rfl, ho, hn, h1, h2, h3, h4⟩ | ⟨rfl, rfl, rfl, rfl, ho, hn⟩
  all_goals (try dsimp only at *)
  · exact reftch_0 0 0 0 o n w (by omega) (by omega)
  · exact reftch_1 a 0 0 o n w (by omega) (by omega) h3 (by omega)
  · exact reftch_2 a e 0 o n w (by omega) (by omega) (by omega) (by omega)
  · exact reftch_3 a e 0 o n w (by omega) (by omega)
  · rcases hk with rfl | rfl
    · exact reftch_4 a 0 c o n w (by omega) (by omega) h1 (by omega) h3 (by omega)
    · exact reftch_5 a 0 c o n w (by omega) (by omega) h1 (by omega) h3 (by omega)
  · exact reftch_6 0 0 0 o n w (by omega) (by omega)
end Go.Proofs.YtgmipogidmcilaaDoor
