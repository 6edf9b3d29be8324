/-
  Chapter 22: the iterator of slices.Chunk at rows of bytes whose length is a multiple of a part's.
  Chapter 22: the table with bytes.
  Chapter 22: records and pages looked up by halving.
-/
import Derived.Test.YtcfdpfmchchkaaaGreatDoorSplE
import Derived.Test.YtcfdpfmchchkaaaGreatDoorRcB
import Derived.Test.YtcfdpfmchchkaaaGreatDoorSplD
import Derived.Test.YtcfdpfmchchkaaaGreatDoorShelf
namespace Go.Proofs.YtcfdpfmchchkaaaGreatDoor
set_option linter.unusedVariables false
set_option linter.unusedSimpArgs false
open Go.RowKit Go.Sort Go.Shelf
attribute [local go_sem] Oper.semAt_some wide_fn wide_depth
def chkV (B o m : Nat) (j : Nat) : Value := .slice (some ⟨B, o + j * m, none⟩) m m
set_option maxRecDepth 100000 in
set_option maxHeartbeats 400000 in
theorem chunk_seq (n B o k m c b1 b2 : Nat) (hm : 1 ≤ m) (hm2 : m ≤ 1000) (hk : k ≤ 1000) (hc : k * m ≤ c) :
 SeqFix n Tryz.prog 127 #[.pointer (some ⟨b1, 0, none⟩), .pointer (some ⟨b2, 0, none⟩)] (fun j : Nat => #[chkV B o m j]) (fun W => Box W b1 #[.slice (some ⟨B, o, none⟩) (k * m) c] 126 ∧ Box W b2 #[.int .i64 m] 3) (List.range k) := by
 intro l J W hJK hJb hY h0
 refine callsIn_of_wp Tryz.func127 rfl trivial ?_ rfl
 simp only [Tryz.ntmps127, List.size_toArray, List.length_cons, List.length_nil, Nat.reduceAdd, Nat.reduceSub, Array.replicate_succ, Array.replicate_zero, List.push_toArray, List.append_toArray, List.nil_append, List.cons_append]
 obtain ⟨Ln, hLn⟩ : ∃ Ln, Ln = k * m := ⟨_, rfl⟩
 rw [← hLn] at hc hJK
 have hLb : Ln ≤ 1000000 := by
  have := Nat.mul_le_mul hk hm2
  omega
 gi_wp2
 gi_loopw [4] (fun ix wr => ∃ j : Nat, j ≤ k ∧ ix = .int .i64 ((j * m : Nat) : Int) ∧ J ((List.range k).take j) wr) (fun ix _ => Ln - (intOf ix).toNat)
 case atStart => exact ⟨0, by omega, by simp, h0⟩
 case round =>
  obtain ⟨j, hj, rfl, hJ⟩ := hrel
  clear h0
  obtain ⟨x1, x2⟩ := hJK _ _ hJ
  have y1 : wr.cell? ⟨b1, 0, none⟩ = some (.slice (some ⟨B, o, none⟩) Ln c) := x1.cells 0
  have y2 : wr.cell? ⟨b2, 0, none⟩ = some (.int .i64 m) := x2.cells 0
  by_cases hlt : j < k
  · have hIm : j * m + m ≤ Ln := by
     have := Nat.mul_le_mul_right m (show j + 1 ≤ k from hlt)
     rw [hLn]; rw [Nat.add_mul] at this; omega
    have hsnoc : (List.range k).take (j + 1) = (List.range k).take j ++ [j] := by
     rw [List.take_succ_eq_append_getElem (by rw [List.length_range]; exact hlt), List.getElem_range]
    have hsplit : List.range k = (List.range k).take j ++ j :: (List.range k).drop (j + 1) := by
     have := List.drop_eq_getElem_cons (l := List.range k) (i := j) (by rw [List.length_range]; exact hlt)
     rw [List.getElem_range] at this
     rw [← this, List.take_append_drop]
    have HY := Lib.hid (fun X (hX : Below wr.heap.size wr X) => hY _ _ _ X hsplit (hJb _ _ _ hJ hX))
    have HS := Lib.hid hsnoc
    have HNX := Lib.hid (show ((j * m : Nat) : Int) + m = (((j + 1) * m : Nat) : Int) by rw [Nat.add_mul]; push_cast; omega)
    unfold chkV at HY
    obtain ⟨I, hI⟩ : ∃ I, I = j * m := ⟨_, rfl⟩
    rw [← hI] at HY hIm HNX ⊢
    have l1 := x1.lt
    have l2 := x2.lt
    clear hsplit hsnoc hY x1 x2 hLn hI
    gi_wp2
    (refine wpIn_region_flowV [false, false, false, false, false, false] [] (by kernel_rfl) (by kernel_rfl) (by kernel_rfl) ?_; simp only [pick, List.length_cons, List.length_nil, List.drop_succ_cons, List.drop_zero, Nat.zero_add, Nat.reduceAdd]; apply Exists.intro; refine ⟨fun X hX => ?_, ?_⟩; (focus (obtain ⟨hcX, hfX⟩ := bcell hX; have hgX := regcell hX; have hsX := hX.size; (try simp only [World.size_alloc] at hsX); (repeat (go_big_quiet_step ((first | fail)))); exact wpQuiet_nil rfl)); simp only [wpND, told, toldAll, List.contains_cons, List.contains_nil, List.mem_cons, List.not_mem_nil, forall_eq_or_imp, false_implies, implies_true, and_true, Nat.reduceBEq, BEq.rfl, beq_self_eq_true, Bool.or_false, Bool.false_or, Bool.true_or, Bool.or_true, Bool.false_eq_true, if_true, if_false, true_implies, dstAt, List.getElem?_toArray, List.getElem?_cons_succ, List.getElem?_cons_zero, Option.some.injEq, forall_eq', Option.bind_some, Act.put, List.setIfInBounds_toArray, List.set_cons_succ, List.set_cons_zero])
    intro X hX
    have z1 : X.cell? ⟨b1, 0, none⟩ = some (.slice (some ⟨B, o, none⟩) Ln c) := (hX.cell (p := ⟨b1, 0, none⟩) l1).trans y1
    have z2 : X.cell? ⟨b2, 0, none⟩ = some (.int .i64 m) := (hX.cell (p := ⟨b2, 0, none⟩) l2).trans y2
    obtain ⟨fn, tmps, assign, body, hy, hR'⟩ := HY.out X hX
    have hmin : min (m : Int) ((Ln - I : Nat) : Int) = m := by omega
    have hmn : ((I : Int) + (m : Int)).toNat - I = m := by omega
    go_wp2
    simp only [hmin]
    gi_wp2
    refine hR'.mono ?_
    rintro e W3 ⟨rfl, hJ3⟩
    have z3 : W3.cell? ⟨b2, 0, none⟩ = some (.int .i64 m) := (hJK _ _ hJ3).2.cells 0
    gi_wp2
    go_roundw
    case rel => exact ⟨j + 1, by omega, by rw [← HNX.out], by rw [HS.out]; exact hJ3⟩
    case measure => simp [intOf]; omega
  · obtain rfl : j = k := by omega
    rw [List.take_of_length_le (by rw [List.length_range]; omega)] at hJ
    rw [← hLn]
    clear hLn
    gi_wp2
    go_end0
    exact ⟨⟨_, rfl⟩, hJ⟩
end Go.Proofs.YtcfdpfmchchkaaaGreatDoor
namespace Go.Proofs.YtcfdpfmchchkaaaGreatDoor
set_option linter.unusedVariables false
set_option linter.unusedSimpArgs false
set_option maxRecDepth 4000
open Go.RowKit Go.Sort Go.Shelf
theorem Chunk_any (A : Option Addr) (n c m : Nat) (hm : 1 ≤ m) (w : World) :
 Calls Tryz.prog 70 #[.slice A n c, .int .i64 (m : Nat)] w fun e w' => ∃ i : Nat × Nat, e = .returned (.func (.func 127) #[] #[.pointer (some ⟨i.1, 0, none⟩), .pointer (some ⟨i.2, 0, none⟩)]) ∧ St [] w w' [.box i.2 #[.int .i64 (m : Nat)] 3, .box i.1 #[.slice A n c] 126] := by
 refine st_enter (N := 9) Tryz.func70 rfl rfl rfl (fun a0 h0 => ?_)
 have S0 := St.init w
 refine st_seq (st_reg ?_)
 refine nb h0 rfl rfl S0 fun b2 a1 X1 gb2 h1 S1 => ?_
 refine nb h1 rfl rfl S1 fun b3 a2 X2 gb3 h2 S2 => ?_
 refine ma h2 rfl rfl fun a3 h3 => ?_
 refine st_nil (go_then (st_seq (st_seq (st_reg ?_))))
 refine vl h3 S2 0 rfl rfl rfl rfl fun a4 h4 => ?_
 refine sv h4 (ex_lss (h4.ev rfl) (h4.ev rfl)) fun a5 h5 => ?_
 refine st_nil (go_then ?_)
 refine st_if_f (h5.ev rfl) ((by simp; omega)) ?_
 refine wp_skip (go_then (st_seq (st_reg ?_)))
 refine sv h5 (ex_func (h5.evs rfl) (h5.evs rfl)) fun a6 h6 => ?_
 refine ma h6 rfl rfl fun a7 h7 => ?_
 refine st_nil (go_then (wp_ret ?_))
 refine fin1 h7 rfl rfl ?_
 exact ⟨(b2, b3), rfl, S2⟩
theorem nAt_one {l : List UInt8} {o : Nat} (h : o + 1 ≤ l.length) : nAt l o 1 = ((l.getD o 0).toNat : Int) := by
 unfold nAt
 have h1 : (l.drop o).take 1 = [l[o]'(by omega)] := by rw [List.drop_eq_getElem_cons (by omega), List.take_succ_cons, List.take_zero]
 rw [h1, List.getD_eq_getElem?_getD, List.getElem?_eq_getElem (by omega)]
 simp [num]
theorem two_of {α : Type} {l : List α} (h : l.length = 2) : ∃ x y, l = [x, y] := by
 match l, h with
 | [x, y], _ => exact ⟨x, y, rfl⟩
theorem g32_nAt {l : List UInt8} {o : Nat} (h : o + 4 ≤ l.length) : g32 l o = nAt l o 4 := by
 unfold g32
 rw [g16_nAt (by omega), g16_nAt (by omega)]
 unfold nAt
 have h1 : (l.drop o).take 4 = (l.drop o).take 2 ++ (l.drop (o + 2)).take 2 := (take_join l o 2 2).symm
 have h2 : ((l.drop o).take 2).length = 2 := by rw [List.length_take, List.length_drop]; omega
 rw [h1]
 obtain ⟨x, y, hxy⟩ : ∃ x y, (l.drop o).take 2 = [x, y] := two_of h2
 rw [hxy]
 simp [num]
 omega
theorem range_part {n p x : Nat} {rest : List Nat} (h : List.range n = List.range p ++ x :: rest) : x = p ∧ p < n := by
 have hl := congrArg List.length h
 rw [List.length_range, List.length_append, List.length_cons, List.length_range] at hl
 have hp : p < n := by omega
 have h1 : (List.range n)[p]? = some p := by rw [List.getElem?_range hp]
 rw [h, List.getElem?_append_right (by rw [List.length_range]; exact Nat.le_refl _), List.length_range, Nat.sub_self] at h1
 exact ⟨by simpa using h1, hp⟩
theorem tofT_succ (s : List UInt8) (k : Nat) : tofT s (k + 1) = tofT s k ++ [trnAt s (2 + 11 * k)] := by
 unfold tofT; rw [List.range_succ, List.map_append]; rfl
theorem tofD_succ (s : List UInt8) (k : Nat) : tofD s (k + 1) = tofD s k ++ [dtyAt s (2 + 11 * tofN s + 7 * k)] := by
 unfold tofD; rw [List.range_succ, List.map_append]; rfl
theorem tofF_succ (s : List UInt8) (k : Nat) : tofF s (k + 1) = (tofF s k && decide (nAt s (2 + 11 * k + 10) 1 ≤ 1)) := by
 unfold tofF; rw [List.range_succ, List.all_append]; simp
theorem tofG_succ (s : List UInt8) (k : Nat) : tofG s (k + 1) = (tofG s k && decide (nAt s (2 + 11 * tofN s + 7 * k + 2) 1 ≤ 1)) := by
 unfold tofG; rw [List.range_succ, List.all_append]; simp
theorem trsL_at {l : List UInt8} {a : Nat} (h : a + 11 ≤ l.length) : trsL (trnAt l a) = [.int .i64 (g16 l a), .int .i64 (g32 l (a + 2)), .int .i64 (g32 l (a + 6)), .bool (((l.getD (a + 10) 0).toNat : Int) == 1)] := by
 unfold trsL trnAt
 simp only []
 rw [g16_nAt (by omega), g32_nAt (by omega), g32_nAt (by omega), nAt_one (o := a + 10) (by omega)]
theorem dtyL_at {l : List UInt8} {a : Nat} (h : a + 7 ≤ l.length) : dtyL (dtyAt l a) = [.int .i64 (g16 l a), .bool (((l.getD (a + 2) 0).toNat : Int) == 1), .int .i64 (g32 l (a + 3))] := by
 unfold dtyL dtyAt
 simp only []
 rw [g16_nAt (by omega), g32_nAt (by omega), nAt_one (o := a + 2) (by omega)]
theorem tofT_row {l : List UInt8} {k : Nat} (h : 2 + k * 11 + 11 ≤ l.length) : (tofT l (k + 1)).flatMap trsL = (tofT l k).flatMap trsL ++ [.int .i64 (g16 l (2 + k * 11)), .int .i64 (g32 l (2 + k * 11 + 2)), .int .i64 (g32 l (2 + k * 11 + 6)), .bool (((l.getD (2 + k * 11 + 10) 0).toNat : Int) == 1)] := by
 rw [tofT_succ, List.flatMap_append, show 2 + 11 * k = 2 + k * 11 by omega, ← trsL_at h]
 simp
theorem tofD_row {l : List UInt8} {k : Nat} (h : 2 + tofN l * 11 + k * 7 + 7 ≤ l.length) : (tofD l (k + 1)).flatMap dtyL = (tofD l k).flatMap dtyL ++ [.int .i64 (g16 l (2 + tofN l * 11 + k * 7)), .bool (((l.getD (2 + tofN l * 11 + k * 7 + 2) 0).toNat : Int) == 1), .int .i64 (g32 l (2 + tofN l * 11 + k * 7 + 3))] := by
 rw [tofD_succ, List.flatMap_append, show 2 + 11 * tofN l + 7 * k = 2 + tofN l * 11 + k * 7 by omega, ← dtyL_at h]
 simp
theorem tofF_row {l : List UInt8} {k : Nat} (h : 2 + k * 11 + 11 ≤ l.length) : tofF l (k + 1) = (tofF l k && decide (((l.getD (2 + k * 11 + 10) 0).toNat : Int) ≤ 1)) := by
 rw [tofF_succ, show 2 + 11 * k + 10 = 2 + k * 11 + 10 by omega, nAt_one (by omega)]
theorem tofG_row {l : List UInt8} {k : Nat} (h : 2 + tofN l * 11 + k * 7 + 7 ≤ l.length) : tofG l (k + 1) = (tofG l k && decide (((l.getD (2 + tofN l * 11 + k * 7 + 2) 0).toNat : Int) ≤ 1)) := by
 rw [tofG_succ, show 2 + 11 * tofN l + 7 * k + 2 = 2 + tofN l * 11 + k * 7 + 2 by omega, nAt_one (by omega)]
theorem TableOf_any (l : List UInt8) (w : World) (hl : l.length ≤ 100000) :
 Calls Tryz.prog 18 #[.string (bs l)] w fun e w' => ∃ i : Option Addr × Nat × Option Addr × Nat, e = .returned (.tuple #[tblV (tofR l) i.1 i.2.1 i.2.2.1 i.2.2.2, .int .i64 (tofE l)]) ∧
  St [] w w' [.row (.slice i.1 (tofR l).ts.length i.2.1) (tofR l).ts.length 116 4 ((tofR l).ts.flatMap trsL), .row (.slice i.2.2.1 (tofR l).ds.length i.2.2.2) (tofR l).ds.length 124 3 ((tofR l).ds.flatMap dtyL)] := by
 have hsz : (bs l).size = l.length := rfl
 have hb0 := (l.getD 0 0).toNat_lt
 have hb1 := (l.getD 1 0).toNat_lt
 refine st_enterM (N := 113) Tryz.func18 rfl rfl rfl (fun a0 h0 => ?_)
 have S0 := St.init w
 refine st_seq (st_reg ?_)
 refine na (.agg #[.slice none 0 0, .slice none 0 0]) h0 rfl S0 fun b2 a1 X1 gb2 h1 S1 => ?_
 refine ma h1 rfl rfl fun a2 h2 => ?_
 refine nsr ?_
 refine mv h2 rfl rfl fun a3 h3 => ?_
 refine sl_bytes h3 (wn rfl) ⟨rfl, rfl⟩ rfl Tryz.underlying9 Tryz.underlying126 Tryz.underlying5 (h3.ev rfl) S1 fun b12 cb12 a4 X4 gb12 zb12 h4 S4 => ?_
 refine ma h4 rfl rfl fun a5 h5 => ?_
 replace S4 : St [] w X4 [.byt b12 l, .box b2 #[.slice none 0 0, .slice none 0 0] 25] := S4
 refine st_nil (go_then (st_seq (st_seq ?_)))
 apply dr_flow h5 [false, false, false, false, false, false, false, false, false, false, false, false, false, false, false, false, false, false, false] _ (by kernel_rfl)
 case h =>
  refine qv h5 (fun X hX => ex_move (h5.ev rfl)) fun a6 h6 => ?_
  refine qv h6 (fun X hX => ex_len Tryz.underlying126 (h6.ev rfl)) fun a7 h7 => ?_
  refine qv h7 (fun X hX => ex_lss (h7.ev rfl) (h7.ev rfl)) fun a8 h8 => ?_
  refine qv h8 (fun X hX => ex_move (h8.ev rfl)) fun a9 h9 => ?_
  apply sq_grpF h9 16 rfl 15 31
  case ht =>
   intro gc16
   refine qo h9 rfl rfl rfl gc16 rfl rfl fun a10 h10 => ?_
   refine qo h10 rfl rfl rfl gc16 rfl rfl fun a11 h11 => ?_
   refine qo h11 rfl rfl rfl gc16 rfl rfl fun a12 h12 => ?_
   refine qo h12 rfl rfl rfl gc16 rfl rfl fun a13 h13 => ?_
   refine qo h13 rfl rfl rfl gc16 rfl rfl fun a14 h14 => ?_
   refine qo h14 rfl rfl rfl gc16 rfl rfl fun a15 h15 => ?_
   refine qo h15 rfl rfl rfl gc16 rfl rfl fun a16 h16 => ?_
   refine qo h16 rfl rfl rfl gc16 rfl rfl fun a17 h17 => ?_
   refine qo h17 rfl rfl rfl gc16 rfl rfl fun a18 h18 => ?_
   refine qo h18 rfl rfl rfl gc16 rfl rfl fun a19 h19 => ?_
   refine qo h19 rfl rfl rfl gc16 rfl rfl fun a20 h20 => ?_
   refine qo h20 rfl rfl rfl gc16 rfl rfl fun a21 h21 => ?_
   refine qo h21 rfl rfl rfl gc16 rfl rfl fun a22 h22 => ?_
   refine qo h22 rfl rfl rfl gc16 rfl rfl fun a23 h23 => ?_
   refine qo h23 rfl rfl rfl gc16 rfl rfl fun a24 h24 => ?_
   exact sq_nil ⟨_, h24.mid (m := [(_, _), (_, _), (_, _), (_, _), (_, _), (_, _), (_, _), (_, _), (_, _), (_, _), (_, _), (_, _), (_, _), (_, _)]) rfl⟩
  case hf =>
   intro gc16
   have h2 : 2 ≤ l.length := by have := of_decide_eq_false gc16; omega
   refine sq_val h9 (wanted_yes h9 _ rfl rfl rfl gc16) rfl rfl (fun X hX => (ex_move (h9.ev rfl))) fun a25 h25 => ?_
   refine sq_val h25 (wanted_yes h25 _ rfl rfl rfl gc16) rfl rfl (fun X hX => (ex_len Tryz.underlying126 (h25.ev rfl))) fun a26 h26 => ?_
   refine sq_val h26 (wanted_yes h26 _ rfl rfl rfl gc16) rfl rfl (fun X hX => (ex_move (h26.ev rfl))) fun a27 h27 => ?_
   refine sq_val h27 (wanted_yes h27 _ rfl rfl rfl gc16) rfl rfl (fun X hX => (ex_index (i := 0) (sz := 1) Tryz.underlying126 (by kernel_rfl) (h27.ev rfl) (h27.ev rfl) (by omega) (by omega) rfl)) fun a28 h28 => ?_
   refine sq_val (v := byteV (l.getD 0 0)) h28 (wanted_yes h28 _ rfl rfl rfl gc16) rfl rfl (fun X hX => (ex_load (by kernel_rfl) (h28.ev rfl) ((bytAt (i := 0) (o := 0) ((S4.grow hX).at_ (i := 0) rfl) (by omega)) 0 _ rfl))) fun a29 h29 => ?_
   refine sq_val h29 (wanted_yes h29 _ rfl rfl rfl gc16) rfl rfl (fun X hX => (ex_convin (by kernel_rfl) Tryz.underlying3 (h29.ev rfl) (wrap_in (by omega)))) fun a30 h30 => ?_
   refine sq_val h30 (wanted_yes h30 _ rfl rfl rfl gc16) rfl rfl (fun X hX => (ex_mul (h30.ev rfl) (h30.ev rfl) (by omega))) fun a31 h31 => ?_
   refine sq_val h31 (wanted_yes h31 _ rfl rfl rfl gc16) rfl rfl (fun X hX => (ex_add (h31.ev rfl) (h31.ev rfl) (by omega))) fun a32 h32 => ?_
   refine sq_val h32 (wanted_yes h32 _ rfl rfl rfl gc16) rfl rfl (fun X hX => (ex_move (h32.ev rfl))) fun a33 h33 => ?_
   refine sq_val h33 (wanted_yes h33 _ rfl rfl rfl gc16) rfl rfl (fun X hX => (ex_index (i := 1) (sz := 1) Tryz.underlying126 (by kernel_rfl) (h33.ev rfl) (h33.ev rfl) (by omega) (by omega) rfl)) fun a34 h34 => ?_
   refine sq_val (v := byteV (l.getD 1 0)) h34 (wanted_yes h34 _ rfl rfl rfl gc16) rfl rfl (fun X hX => (ex_load (by kernel_rfl) (h34.ev rfl) ((bytAt (i := 1) (o := 0) ((S4.grow hX).at_ (i := 0) rfl) (by omega)) 0 _ rfl))) fun a35 h35 => ?_
   refine sq_val h35 (wanted_yes h35 _ rfl rfl rfl gc16) rfl rfl (fun X hX => (ex_convin (by kernel_rfl) Tryz.underlying3 (h35.ev rfl) (wrap_in (by omega)))) fun a36 h36 => ?_
   refine sq_val h36 (wanted_yes h36 _ rfl rfl rfl gc16) rfl rfl (fun X hX => (ex_mul (h36.ev rfl) (h36.ev rfl) (by omega))) fun a37 h37 => ?_
   refine sq_val h37 (wanted_yes h37 _ rfl rfl rfl gc16) rfl rfl (fun X hX => (ex_add (h37.ev rfl) (h37.ev rfl) (by omega))) fun a38 h38 => ?_
   refine sq_val h38 (wanted_yes h38 _ rfl rfl rfl gc16) rfl rfl (fun X hX => (ex_neq (h38.ev rfl) (h38.ev rfl))) fun a39 h39 => ?_
   exact sq_nil (h39.mid (m := [(_, _), (_, _), (_, _), (_, _), (_, _), (_, _), (_, _), (_, _), (_, _), (_, _), (_, _), (_, _), (_, _), (_, _)]) rfl)
  case h =>
   intro v40 a40 hg31 h40
   refine sq_nil ?_
   refine nd_end fun X41 hX41 hΦ41 => ?_
   have S41 := S4.grow hX41
   refine sv h40 (ex_pick_or (h40.ev rfl) (h40.ev rfl) (h40.ev rfl) hg31) fun a42 h42 => ?_
   refine st_nil (go_then ?_)
   refine st_if (h42.ev rfl) (fun hc0 => ?_) (fun hc0 => ?_)
   ·
    have hE : tofE l = 10 := by
     unfold tofE
     split
     · rfl
     · rename_i h2
       rw [if_pos]
       intro h3
       rw [Bool.or_eq_true, decide_eq_true_eq, bne_iff_ne] at hc0
       have e1 : tofN l = (l.getD 0 0).toNat := by unfold tofN; rw [nAt_one (by omega)]; rfl
       have e2 : tofM l = (l.getD 1 0).toNat := by unfold tofM; rw [nAt_one (by omega)]; rfl
       rw [e1, e2] at h3
       omega
    have hR : tofR l = tbl0 := by unfold tofR; rw [if_neg (by rw [hE]; decide)]
    refine st_seq (st_reg ?_)
    refine sv h42 (ex_build (zs := [.slice none 0 0, .slice none 0 0]) (pl := [(0, 1), (1, 1)]) (by kernel_rfl) (by kernel_rfl) (h42.evs2 rfl) rfl rfl) fun a43 h43 => ?_
    refine sl_store0 h43 (wn rfl) ⟨rfl, rfl⟩ (h43.ev rfl) (h43.ev rfl) rfl (by kernel_rfl) S41 (i := 1) rfl rfl rfl fun X44 S44 => ?_
    refine ma h43 rfl rfl fun a45 h45 => ?_
    refine st_nil (go_then (wp_ret (ret_then ?_)))
    refine fm_ret h45 ?_
    refine fm_nil h45 (fun a46 h46 => ?_)
    refine finct h46 rfl rfl rfl S44 (i := 1) rfl (by kernel_rfl) (by kernel_rfl) ?_
    refine ⟨(none, 0, none, 0), by rw [hR, hE]; rfl, ?_⟩
    rw [hR]
    exact ((S44.sub (List.nil_sublist _)).nilRow 124 3).nilRow 116 4
   ·
    have h2 : 2 ≤ l.length := by
     have := (Bool.or_eq_false_iff.1 hc0).1
     have := of_decide_eq_false this
     omega
    have e1 : tofN l = (l.getD 0 0).toNat := by unfold tofN; rw [nAt_one (by omega)]; rfl
    have e2 : tofM l = (l.getD 1 0).toNat := by unfold tofM; rw [nAt_one (by omega)]; rfl
    have h3 : l.length = 2 + 11 * tofN l + 7 * tofM l := by
     have := (Bool.or_eq_false_iff.1 hc0).2
     rw [bne_eq_false_iff_eq] at this
     rw [e1, e2]; omega
    have hNb : tofN l < 256 := by omega
    have hMb : tofM l < 256 := by omega
    refine wp_skip (go_then (st_seq (st_reg ?_)))
    refine na (.agg #[.slice none 0 0, .slice none 0 0]) h42 rfl S41 fun b5 a47 X47 gb5 h47 S47 => ?_
    refine nsr ?_
    refine na (.bool false) h47 rfl S47 fun b6 a48 X48 gb6 h48 S48 => ?_
    refine sl_store0 h48 (wn rfl) ⟨rfl, rfl⟩ (h48.ev rfl) (h48.ev rfl) rfl (by kernel_rfl) S48 (i := 0) rfl rfl rfl fun X49 S49 => ?_
    refine nsr ?_
    refine mv h48 rfl rfl fun a50 h50 => ?_
    refine sv h50 (ex_index (i := 0) (sz := 1) Tryz.underlying126 (by kernel_rfl) (h50.ev rfl) (h50.ev rfl) (by omega) (by omega) rfl) fun a51 h51 => ?_
    refine sv (v := byteV (l.getD 0 0)) h51 (ex_load (by kernel_rfl) (h51.ev rfl) ((bytAt (i := 0) (o := 0) (S49.at_ (i := 2) rfl) (by omega)) 0 _ rfl)) fun a52 h52 => ?_
    refine sv h52 (ex_convin (by kernel_rfl) Tryz.underlying3 (h52.ev rfl) (wrap_in (by omega))) fun a53 h53 => ?_
    refine sv h53 (ex_mul (h53.ev rfl) (h53.ev rfl) (by omega)) fun a54 h54 => ?_
    refine sv h54 (as_val (v' := .int .i64 ((2 + tofN l * 11 : Nat) : Int)) (by rw [e1]; rfl) (ex_add (h54.ev rfl) (h54.ev rfl) (by omega))) fun a55 h55 => ?_
    refine ma h55 rfl rfl fun a56 h56 => ?_
    refine st_nil (go_then (st_seq (st_seq (st_reg ?_))))
    refine mv h56 rfl rfl fun a57 h57 => ?_
    refine mv h57 rfl rfl fun a58 h58 => ?_
    refine sv h58 (ex_sliceJ (l := 2) (h := 2 + tofN l * 11) (sz := 1) Tryz.underlying126 (by kernel_rfl) (h58.ev rfl) (h58.ev rfl) (h58.ev rfl) (by omega) (by omega)) fun a59 h59 => ?_
    rw [show 2 + tofN l * 11 - 2 = tofN l * 11 by omega] at h59
    refine sl_more h59 (wn rfl) (ex_call (fun _ _ => by kernel_rfl) (h59.evs rfl) rfl) rfl rfl S49 (Chunk_any _ _ _ 11 (by decide) _) fun p43 a60 X60 h60 S60 => ?_
    replace S60 := St.nilRow S60 116 4
    refine st_nil (go_then (wp_block ?_))
    refine st_rangeF h60 S60 127 #[.pointer (some ⟨p43.1, 0, none⟩), .pointer (some ⟨p43.2, 0, none⟩)] rfl (enters_of Tryz.func127 (by kernel_rfl) rfl) (chkV b12 (offJ 0 cb12 2 1) 11) (List.range (tofN l)) (chunk_seq 5 b12 (offJ 0 cb12 2 1) (tofN l) 11 (cb12 - 2) p43.1 p43.2 (by decide) (by decide) (by omega) (by omega)) (fun pre (q : Nat × Option Addr × Nat) => pre = List.range q.1) (fun (q : Nat × Option Addr × Nat) => [.row (.slice q.2.1 q.1 q.2.2) q.1 116 4 ((tofT l q.1).flatMap trsL), .box p43.2 #[.int .i64 (11 : Nat)] 3, .box p43.1 #[.slice (some ⟨b12, offJ 0 cb12 2 1, none⟩) (tofN l * 11) (cb12 - 2)] 126, .box b6 #[.bool (tofF l q.1)] 4, .box b5 #[.slice q.2.1 q.1 q.2.2, .slice none 0 0] 25, .byt b12 l, .box b2 #[.slice none 0 0, .slice none 0 0] 25]) rfl (fun _ => ⟨trivial, trivial, trivial, trivial, trivial, trivial, trivial, trivial⟩) (fun i A S => ⟨S.at_ (i := 2) rfl, S.at_ (i := 1) rfl⟩) ((0, none, 0)) (rfl) (S60) ?_ ?_
    ·
     intro lr pre x rest W a61 hx h61
     refine rd_reg (by kernel_rfl) (notOut_then notOut_no) ?_
     refine ma h61 rfl rfl fun a62 h62 => ?_
     refine st_nil (go_then ?_)
     refine ⟨rfl, fun q X63 hF0 S63 => ?_⟩
     subst hF0
     obtain ⟨rfl, hlt⟩ := range_part hx
     have hj1 : offJ 0 cb12 2 1 = 2 := by unfold offJ; rw [if_neg (by omega)]
     have hv : chkV b12 (offJ 0 cb12 2 1) 11 q.1 = .slice (some ⟨b12, 2 + q.1 * 11, none⟩) 11 11 := by unfold chkV; rw [hj1]
     rw [hv] at h62
     refine wpIn_block ?_
     refine wpIn_seq ?_
     refine rd_reg (by kernel_rfl) (notOut_then (notOut_block notOut_end)) ?_
     refine vl h62 S63 3 rfl rfl rfl rfl fun a64 h64 => ?_
     refine mv h64 rfl rfl fun a65 h65 => ?_
     apply sl_and (x := decide (((l.getD (2 + q.1 * 11 + 10) 0).toNat : Int) ≤ 1)) h65 S63 46 rfl 5 51
     case ht =>
      intro gc46
      refine sy h65 rfl rfl rfl gc46 (ex_move (h65.ev rfl)) rfl rfl fun a66 h66 => ?_
      refine sy h66 rfl rfl rfl gc46 (ex_index (i := 10) (sz := 1) Tryz.underlying126 (by kernel_rfl) (h66.ev rfl) (h66.ev rfl) (by omega) (by omega) rfl) rfl rfl fun a67 h67 => ?_
      refine sl_val (v := byteV (l.getD (2 + q.1 * 11 + 10) 0)) h67 (wanted_yes h67 _ rfl rfl rfl gc46) (ex_load (by kernel_rfl) (h67.ev rfl) ((bytAt (i := 10) (o := 2 + q.1 * 11) (S63.at_ (i := 5) rfl) (by omega)) 0 _ rfl)) rfl rfl fun a68 h68 => ?_
      refine sy h68 rfl rfl rfl gc46 (ex_leq (h68.ev rfl) (h68.ev rfl)) rfl rfl fun a69 h69 => ?_
      refine sv h69 (ex_pick_t (h69.ev rfl) gc46 (h69.ev rfl)) fun a70 h70 => ?_
      exact st_nil ⟨h70.mid (m := [(_, _), (_, _), (_, _), (_, _)]) rfl, S63⟩
     case hf =>
      intro gc46
      refine no h65 rfl rfl rfl gc46 rfl rfl fun a71 h71 => ?_
      refine no h71 rfl rfl rfl gc46 rfl rfl fun a72 h72 => ?_
      refine no h72 rfl rfl rfl gc46 rfl rfl fun a73 h73 => ?_
      refine no h73 rfl rfl rfl gc46 rfl rfl fun a74 h74 => ?_
      refine sv h74 (ex_pick_f (h74.ev rfl) gc46 (h74.ev rfl)) fun a75 h75 => ?_
      exact st_nil ⟨h75.mid (m := [(_, _), (_, _), (_, _), (_, _)]) rfl, S63⟩
     case h =>
      rintro a76 X76 ⟨h76, S76⟩
      refine sl_store0 h76 (wn rfl) ⟨rfl, rfl⟩ (h76.ev rfl) (h76.ev rfl) rfl (by kernel_rfl) S76 (i := 3) rfl rfl rfl fun X77 S77 => ?_
      refine st_nil (go_then ?_)
      refine rd_draw (by kernel_rfl) (by kernel_rfl) (notOut_block notOut_end) ?_
      apply an_flow h76 [false, false, false, false, false, false, false, false, false, false, false, false, false, false, false, false, false, false, true] _
      case h =>
       refine qv h76 (fun X hX => ex_field (off := 0) (j := 0) (by kernel_rfl) (h76.ev rfl) rfl) fun a78 h78 => ?_
       refine qv h78 (fun X hX => ex_load (by kernel_rfl) (h78.ev rfl) ((S77.grow hX).cell (i := 4) rfl rfl)) fun a79 h79 => ?_
       refine qv h79 (fun X hX => ex_move (h79.ev rfl)) fun a80 h80 => ?_
       refine sq_bel h80 (wn rfl) rfl rfl (fun X => (ex_call (fun _ _ => by kernel_rfl) (h80.evs rfl) rfl)) (fun X hX => rget16_any b12 (2 + q.1 * 11) 11 11 l _ ((S77.grow hX).at_ (i := 5) rfl) (by omega) (by omega)) fun a81 h81 => ?_
       refine qv h81 (fun X hX => ex_convin (by kernel_rfl) Tryz.underlying3 (h81.ev rfl) (wrap_in (by have := g16_bd l (2 + q.1 * 11); omega))) fun a82 h82 => ?_
       refine qv h82 (fun X hX => ex_move (h82.ev rfl)) fun a83 h83 => ?_
       refine qv h83 (fun X hX => ex_slice (l := 2) (h := 11) (sz := 1) Tryz.underlying126 (by kernel_rfl) (h83.ev rfl) (h83.ev rfl) rfl (by omega) (by omega) (by omega) rfl) fun a84 h84 => ?_
       refine sq_bel h84 (wn rfl) rfl rfl (fun X => (ex_call (fun _ _ => by kernel_rfl) (h84.evs rfl) rfl)) (fun X hX => rget32_any b12 (2 + q.1 * 11 + 2 * 1) (11 - 2) (11 - 2) l _ ((S77.grow hX).at_ (i := 5) rfl) (by omega) (by omega) (by omega)) fun a85 h85 => ?_
       refine qv h85 (fun X hX => ex_convin (by kernel_rfl) Tryz.underlying3 (h85.ev rfl) (wrap_in (by have := g32_bd l (2 + q.1 * 11 + 2 * 1); omega))) fun a86 h86 => ?_
       refine qv h86 (fun X hX => ex_move (h86.ev rfl)) fun a87 h87 => ?_
       refine qv h87 (fun X hX => ex_slice (l := 6) (h := 11) (sz := 1) Tryz.underlying126 (by kernel_rfl) (h87.ev rfl) (h87.ev rfl) rfl (by omega) (by omega) (by omega) rfl) fun a88 h88 => ?_
       refine sq_bel h88 (wn rfl) rfl rfl (fun X => (ex_call (fun _ _ => by kernel_rfl) (h88.evs rfl) rfl)) (fun X hX => rget32_any b12 (2 + q.1 * 11 + 6 * 1) (11 - 6) (11 - 6) l _ ((S77.grow hX).at_ (i := 5) rfl) (by omega) (by omega) (by omega)) fun a89 h89 => ?_
       refine qv h89 (fun X hX => ex_convin (by kernel_rfl) Tryz.underlying3 (h89.ev rfl) (wrap_in (by have := g32_bd l (2 + q.1 * 11 + 6 * 1); omega))) fun a90 h90 => ?_
       refine qv h90 (fun X hX => ex_move (h90.ev rfl)) fun a91 h91 => ?_
       refine qv h91 (fun X hX => ex_index (i := 10) (sz := 1) Tryz.underlying126 (by kernel_rfl) (h91.ev rfl) (h91.ev rfl) (by omega) (by omega) rfl) fun a92 h92 => ?_
       refine qv (v := byteV (l.getD (2 + q.1 * 11 + 10) 0)) h92 (fun X hX => ex_load (by kernel_rfl) (h92.ev rfl) ((bytAt (i := 10) (o := 2 + q.1 * 11) ((S77.grow hX).at_ (i := 5) rfl) (by omega)) 0 _ rfl)) fun a93 h93 => ?_
       refine qv h93 (fun X hX => ex_eql (h93.ev rfl) (h93.ev rfl)) fun a94 h94 => ?_
       refine qv h94 (fun X hX => ex_build (zs := [.int .i64 0, .int .i64 0, .int .i64 0, .bool false]) (pl := [(0, 1), (1, 1), (2, 1), (3, 1)]) (by kernel_rfl) (by kernel_rfl) (h94.evs2 rfl) rfl rfl) fun a95 h95 => ?_
       refine sq_nil ?_
       apply nd_step (k := 18) (deps := []) (R := NewB _ (fun b => .slice (some ⟨b, 0, none⟩) 1 1) _ _) h95 rfl rfl rfl NewB.stable (fun X hX hΦ => lv_new (ex_bslice2 (zc := [.int .i64 0, .int .i64 0, .int .i64 0, .bool false]) (sz := 4) rfl Tryz.underlying22 (by kernel_rfl) (by kernel_rfl) rfl rfl rfl (h95.evs2 rfl) rfl rfl rfl) hX.size)
       intro v70 a96 h96
       refine nd_end fun X97 hX97 hΦ97 => ?_
       have S97 := S77.grow hX97
       have qv70 := told_all hΦ97 (k := 18) rfl
       obtain ⟨b70, rfl, gb70, qv70⟩ := qv70
       have S98 := S77.add hX97 (e := .box _ _ _) qv70 (fun b hb => by cases hb; exact ⟨gb70, Box.lt qv70⟩)
       refine sl_append (z := .agg #[.int .i64 0, .int .i64 0, .int .i64 0, .bool false]) (sz := 4) (bytes := 32) h96 (wn rfl) ⟨rfl, rfl⟩ rfl Tryz.underlying22 (by kernel_rfl) rfl rfl (h96.ev rfl) (h96.ev rfl) S98 (i := 1) rfl (S98.boxRd (i := 0) rfl) rfl (List.all_eq_true.1 rfl) ⟨(by omega), by decide⟩ fun A71 c71 a99 X99 h99 S99 => ?_
       refine vf h99 0 0 rfl rfl rfl fun a100 h100 => ?_
       refine sl_store h100 (wn rfl) ⟨rfl, rfl⟩ (h100.ev rfl) (h100.ev rfl) rfl (by kernel_rfl) S99 (i := 5) rfl rfl rfl fun X101 S101 => ?_
       refine st_nil (go_block ?_)
       exact ⟨rfl, (q.1 + 1, A71, c71), (List.range_succ).symm, (by show St _ _ _ [.row _ _ _ _ ((tofT l (q.1 + 1)).flatMap trsL), _, _, .box b6 #[.bool (tofF l (q.1 + 1))] _, _, _, _]; rw [tofT_row (by omega), tofF_row (by omega)]; exact (S101.sub (.cons _ (.cons_cons _ (.cons_cons _ (.cons_cons _ (.cons_cons _ (.cons_cons _ (.cons_cons _ (.cons_cons _ .slnil))))))))))⟩
      case hB => kernel_rfl
      case hst => rfl
    ·
     intro D0 a102 X102 q hF0 h102 S102
     obtain ⟨n1, A1, c1⟩ := q
     obtain rfl : tofN l = n1 := by have := congrArg List.length hF0; simpa using this
     replace S102 : St [] w X102 [markE D0, .row (.slice A1 (tofN l) c1) (tofN l) 116 4 ((tofT l (tofN l)).flatMap trsL), .box p43.2 #[.int .i64 (11 : Nat)] 3, .box p43.1 #[.slice (some ⟨b12, offJ 0 cb12 2 1, none⟩) (tofN l * 11) (cb12 - 2)] 126, .box b6 #[.bool (tofF l (tofN l))] 4, .box b5 #[.slice A1 (tofN l) c1, .slice none 0 0] 25, .byt b12 l, .box b2 #[.slice none 0 0, .slice none 0 0] 25] := S102
     refine go_block (go_then (st_seq (st_seq (st_reg ?_))))
     refine mv h102 rfl rfl fun a103 h103 => ?_
     refine mv h103 rfl rfl fun a104 h104 => ?_
     refine sv h104 (ex_sliceJ (l := 2 + tofN l * 11) (h := (bs l).size) (sz := 1) Tryz.underlying126 (by kernel_rfl) (h104.ev rfl) (h104.ev rfl) rfl (by omega) (by omega)) fun a105 h105 => ?_
     rw [show (bs l).size - (2 + tofN l * 11) = tofM l * 7 by omega] at h105
     refine sl_more h105 (wn rfl) (ex_call (fun _ _ => by kernel_rfl) (h105.evs rfl) rfl) rfl rfl S102 (Chunk_any _ _ _ 7 (by decide) _) fun p76 a106 X106 h106 S106 => ?_
     replace S106 := St.nilRow S106 124 3
     refine st_nil (go_then (wp_block ?_))
     refine st_rangeF h106 S106 127 #[.pointer (some ⟨p76.1, 0, none⟩), .pointer (some ⟨p76.2, 0, none⟩)] rfl (enters_of Tryz.func127 (by kernel_rfl) rfl) (chkV b12 (offJ 0 cb12 (2 + tofN l * 11) 1) 7) (List.range (tofM l)) (chunk_seq 5 b12 (offJ 0 cb12 (2 + tofN l * 11) 1) (tofM l) 7 (cb12 - (2 + tofN l * 11)) p76.1 p76.2 (by decide) (by decide) (by omega) (by omega)) (fun pre (q : Nat × Option Addr × Nat) => pre = List.range q.1) (fun (q : Nat × Option Addr × Nat) => [.row (.slice q.2.1 q.1 q.2.2) q.1 124 3 ((tofD l q.1).flatMap dtyL), .box p76.2 #[.int .i64 (7 : Nat)] 3, .box p76.1 #[.slice (some ⟨b12, offJ 0 cb12 (2 + tofN l * 11) 1, none⟩) (tofM l * 7) (cb12 - (2 + tofN l * 11))] 126, markE D0, .row (.slice A1 (tofN l) c1) (tofN l) 116 4 ((tofT l (tofN l)).flatMap trsL), .box p43.2 #[.int .i64 (11 : Nat)] 3, .box p43.1 #[.slice (some ⟨b12, offJ 0 cb12 2 1, none⟩) (tofN l * 11) (cb12 - 2)] 126, .box b6 #[.bool (tofF l (tofN l) && tofG l q.1)] 4, .box b5 #[.slice A1 (tofN l) c1, .slice q.2.1 q.1 q.2.2] 25, .byt b12 l, .box b2 #[.slice none 0 0, .slice none 0 0] 25]) rfl (fun _ => ⟨trivial, trivial, trivial, List.mem_of_getElem? (i := 3) rfl, trivial, trivial, trivial, trivial, trivial, trivial, trivial, trivial⟩) (fun i A S => ⟨S.at_ (i := 2) rfl, S.at_ (i := 1) rfl⟩) ((0, none, 0)) (rfl) ((by show St [] w _ [_, _, _, _, _, _, _, .box b6 #[.bool (tofF l (tofN l) && tofG l 0)] _, _, _, _]; rw [show tofG l 0 = true from rfl, Bool.and_true]; exact S106)) ?_ ?_
     ·
      intro lr pre x rest W a107 hx h107
      refine rd_reg (by kernel_rfl) (notOut_then notOut_no) ?_
      refine ma h107 rfl rfl fun a108 h108 => ?_
      refine st_nil (go_then ?_)
      refine ⟨rfl, fun q X109 hF1 S109 => ?_⟩
      subst hF1
      obtain ⟨rfl, hlt⟩ := range_part hx
      have hj2 : offJ 0 cb12 (2 + tofN l * 11) 1 = 2 + tofN l * 11 := by unfold offJ; rw [if_neg (by omega)]; omega
      have hv : chkV b12 (offJ 0 cb12 (2 + tofN l * 11) 1) 7 q.1 = .slice (some ⟨b12, 2 + tofN l * 11 + q.1 * 7, none⟩) 7 7 := by unfold chkV; rw [hj2]
      rw [hv] at h108
      refine wpIn_block ?_
      refine wpIn_seq ?_
      refine rd_reg (by kernel_rfl) (notOut_then (notOut_block notOut_end)) ?_
      refine vl h108 S109 7 rfl rfl rfl rfl fun a110 h110 => ?_
      refine mv h110 rfl rfl fun a111 h111 => ?_
      apply sl_and (x := decide (((l.getD (2 + tofN l * 11 + q.1 * 7 + 2) 0).toNat : Int) ≤ 1)) h111 S109 79 rfl 5 84
      case ht =>
       intro gc79
       refine sy h111 rfl rfl rfl gc79 (ex_move (h111.ev rfl)) rfl rfl fun a112 h112 => ?_
       refine sy h112 rfl rfl rfl gc79 (ex_index (i := 2) (sz := 1) Tryz.underlying126 (by kernel_rfl) (h112.ev rfl) (h112.ev rfl) (by omega) (by omega) rfl) rfl rfl fun a113 h113 => ?_
       refine sl_val (v := byteV (l.getD (2 + tofN l * 11 + q.1 * 7 + 2) 0)) h113 (wanted_yes h113 _ rfl rfl rfl gc79) (ex_load (by kernel_rfl) (h113.ev rfl) ((bytAt (i := 2) (o := 2 + tofN l * 11 + q.1 * 7) (S109.at_ (i := 9) rfl) (by omega)) 0 _ rfl)) rfl rfl fun a114 h114 => ?_
       refine sy h114 rfl rfl rfl gc79 (ex_leq (h114.ev rfl) (h114.ev rfl)) rfl rfl fun a115 h115 => ?_
       refine sv h115 (ex_pick_t (h115.ev rfl) gc79 (h115.ev rfl)) fun a116 h116 => ?_
       exact st_nil ⟨h116.mid (m := [(_, _), (_, _), (_, _), (_, _)]) rfl, S109⟩
      case hf =>
       intro gc79
       refine no h111 rfl rfl rfl gc79 rfl rfl fun a117 h117 => ?_
       refine no h117 rfl rfl rfl gc79 rfl rfl fun a118 h118 => ?_
       refine no h118 rfl rfl rfl gc79 rfl rfl fun a119 h119 => ?_
       refine no h119 rfl rfl rfl gc79 rfl rfl fun a120 h120 => ?_
       refine sv h120 (ex_pick_f (h120.ev rfl) gc79 (h120.ev rfl)) fun a121 h121 => ?_
       exact st_nil ⟨h121.mid (m := [(_, _), (_, _), (_, _), (_, _)]) rfl, S109⟩
      case h =>
       rintro a122 X122 ⟨h122, S122⟩
       refine sl_store0 h122 (wn rfl) ⟨rfl, rfl⟩ (h122.ev rfl) (h122.ev rfl) rfl (by kernel_rfl) S122 (i := 7) rfl rfl rfl fun X123 S123 => ?_
       refine st_nil (go_then ?_)
       refine rd_draw (by kernel_rfl) (by kernel_rfl) (notOut_block notOut_end) ?_
       apply an_flow h122 [false, false, false, false, false, false, false, false, false, false, false, false, false, false, true] _
       case h =>
        refine qv h122 (fun X hX => ex_field (off := 1) (j := 1) (by kernel_rfl) (h122.ev rfl) rfl) fun a124 h124 => ?_
        refine qv h124 (fun X hX => ex_load (by kernel_rfl) (h124.ev rfl) ((S123.grow hX).cell (i := 8) rfl rfl)) fun a125 h125 => ?_
        refine qv h125 (fun X hX => ex_move (h125.ev rfl)) fun a126 h126 => ?_
        refine sq_bel h126 (wn rfl) rfl rfl (fun X => (ex_call (fun _ _ => by kernel_rfl) (h126.evs rfl) rfl)) (fun X hX => rget16_any b12 (2 + tofN l * 11 + q.1 * 7) 7 7 l _ ((S123.grow hX).at_ (i := 9) rfl) (by omega) (by omega)) fun a127 h127 => ?_
        refine qv h127 (fun X hX => ex_convin (by kernel_rfl) Tryz.underlying3 (h127.ev rfl) (wrap_in (by have := g16_bd l (2 + tofN l * 11 + q.1 * 7); omega))) fun a128 h128 => ?_
        refine qv h128 (fun X hX => ex_move (h128.ev rfl)) fun a129 h129 => ?_
        refine qv h129 (fun X hX => ex_index (i := 2) (sz := 1) Tryz.underlying126 (by kernel_rfl) (h129.ev rfl) (h129.ev rfl) (by omega) (by omega) rfl) fun a130 h130 => ?_
        refine qv (v := byteV (l.getD (2 + tofN l * 11 + q.1 * 7 + 2) 0)) h130 (fun X hX => ex_load (by kernel_rfl) (h130.ev rfl) ((bytAt (i := 2) (o := 2 + tofN l * 11 + q.1 * 7) ((S123.grow hX).at_ (i := 9) rfl) (by omega)) 0 _ rfl)) fun a131 h131 => ?_
        refine qv h131 (fun X hX => ex_eql (h131.ev rfl) (h131.ev rfl)) fun a132 h132 => ?_
        refine qv h132 (fun X hX => ex_move (h132.ev rfl)) fun a133 h133 => ?_
        refine qv h133 (fun X hX => ex_slice (l := 3) (h := 7) (sz := 1) Tryz.underlying126 (by kernel_rfl) (h133.ev rfl) (h133.ev rfl) rfl (by omega) (by omega) (by omega) rfl) fun a134 h134 => ?_
        refine sq_bel h134 (wn rfl) rfl rfl (fun X => (ex_call (fun _ _ => by kernel_rfl) (h134.evs rfl) rfl)) (fun X hX => rget32_any b12 (2 + tofN l * 11 + q.1 * 7 + 3 * 1) (7 - 3) (7 - 3) l _ ((S123.grow hX).at_ (i := 9) rfl) (by omega) (by omega) (by omega)) fun a135 h135 => ?_
        refine qv h135 (fun X hX => ex_convin (by kernel_rfl) Tryz.underlying3 (h135.ev rfl) (wrap_in (by have := g32_bd l (2 + tofN l * 11 + q.1 * 7 + 3 * 1); omega))) fun a136 h136 => ?_
        refine qv h136 (fun X hX => ex_build (zs := [.int .i64 0, .bool false, .int .i64 0]) (pl := [(0, 1), (1, 1), (2, 1)]) (by kernel_rfl) (by kernel_rfl) (h136.evs2 rfl) rfl rfl) fun a137 h137 => ?_
        refine sq_nil ?_
        apply nd_step (k := 14) (deps := []) (R := NewB _ (fun b => .slice (some ⟨b, 0, none⟩) 1 1) _ _) h137 rfl rfl rfl NewB.stable (fun X hX hΦ => lv_new (ex_bslice2 (zc := [.int .i64 0, .bool false, .int .i64 0]) (sz := 3) rfl Tryz.underlying23 (by kernel_rfl) (by kernel_rfl) rfl rfl rfl (h137.evs2 rfl) rfl rfl rfl) hX.size)
        intro v99 a138 h138
        refine nd_end fun X139 hX139 hΦ139 => ?_
        have S139 := S123.grow hX139
        have qv99 := told_all hΦ139 (k := 14) rfl
        obtain ⟨b99, rfl, gb99, qv99⟩ := qv99
        have S140 := S123.add hX139 (e := .box _ _ _) qv99 (fun b hb => by cases hb; exact ⟨gb99, Box.lt qv99⟩)
        refine sl_append (z := .agg #[.int .i64 0, .bool false, .int .i64 0]) (sz := 3) (bytes := 24) h138 (wn rfl) ⟨rfl, rfl⟩ rfl Tryz.underlying23 (by kernel_rfl) rfl rfl (h138.ev rfl) (h138.ev rfl) S140 (i := 1) rfl (S140.boxRd (i := 0) rfl) rfl (List.all_eq_true.1 rfl) ⟨(by omega), by decide⟩ fun A100 c100 a141 X141 h141 S141 => ?_
        refine vf h141 1 1 rfl rfl rfl fun a142 h142 => ?_
        refine sl_store h142 (wn rfl) ⟨rfl, rfl⟩ (h142.ev rfl) (h142.ev rfl) rfl (by kernel_rfl) S141 (i := 9) rfl rfl rfl fun X143 S143 => ?_
        skip
        refine st_nil (go_block ?_)
        exact ⟨rfl, (q.1 + 1, A100, c100), (List.range_succ).symm, (by show St _ _ _ [.row _ _ _ _ ((tofD l (q.1 + 1)).flatMap dtyL), _, _, _, _, _, _, .box b6 #[.bool (tofF l (tofN l) && tofG l (q.1 + 1))] _, _, _, _]; rw [tofD_row (by omega), tofG_row (by omega), ← Bool.and_assoc]; exact (S143.sub (.cons _ (.cons_cons _ (.cons_cons _ (.cons_cons _ (.cons_cons _ (.cons_cons _ (.cons_cons _ (.cons_cons _ (.cons_cons _ (.cons_cons _ (.cons_cons _ (.cons_cons _ .slnil))))))))))))))⟩
       case hB => kernel_rfl
       case hst => rfl
     ·
      intro D1 a144 X144 q hF1 h144 S144
      obtain ⟨n2, A2, c2⟩ := q
      obtain rfl : tofM l = n2 := by have := congrArg List.length hF1; simpa using this
      have eT : (tofV l).ts.length = tofN l := by show (tofT l (tofN l)).length = _; unfold tofT; simp
      have eD : (tofV l).ds.length = tofM l := by show (tofD l (tofM l)).length = _; unfold tofD; simp
      replace S144 : St [] w X144 [markE D1, .row (.slice A2 (tofV l).ds.length c2) (tofV l).ds.length 124 3 ((tofV l).ds.flatMap dtyL), .box p76.2 #[.int .i64 (7 : Nat)] 3, .box p76.1 #[.slice (some ⟨b12, offJ 0 cb12 (2 + tofN l * 11) 1, none⟩) (tofM l * 7) (cb12 - (2 + tofN l * 11))] 126, markE D0, .row (.slice A1 (tofV l).ts.length c1) (tofV l).ts.length 116 4 ((tofV l).ts.flatMap trsL), .box p43.2 #[.int .i64 (11 : Nat)] 3, .box p43.1 #[.slice (some ⟨b12, offJ 0 cb12 2 1, none⟩) (tofN l * 11) (cb12 - 2)] 126, .box b6 #[.bool (tofF l (tofN l) && tofG l (tofM l))] 4, .box b5 #[.slice A1 (tofV l).ts.length c1, .slice A2 (tofV l).ds.length c2] 25, .byt b12 l, .box b2 #[.slice none 0 0, .slice none 0 0] 25] := by rw [eT, eD]; exact S144
      refine go_block (go_then (st_seq (st_seq ?_)))
      apply dr_flow h144 [false, false, false] _ (by kernel_rfl)
      case h =>
       refine qv h144 (fun X hX => ex_load (by kernel_rfl) (h144.ev rfl) ((S144.grow hX).cell (i := 8) rfl rfl)) fun a145 h145 => ?_
       refine sq_pure h145 (wn rfl) rfl rfl (fun X => (ex_call (fun _ _ => by kernel_rfl) (h145.evs rfl) rfl)) (fun X hX => recovery_unless_any _ _ _) fun a146 h146 => ?_
       refine qv (v := tblV (tofV l) A1 c1 A2 c2) h146 (fun X hX => ex_loads (by kernel_rfl) (by kernel_rfl) (h146.ev rfl) ((S144.grow hX).cellsAll (i := 9) rfl)) fun a147 h147 => ?_
       refine sq_nil ?_
       refine nd_end fun X148 hX148 hΦ148 => ?_
       have S148 := S144.grow hX148
       refine sl_bel h147 (wn rfl) (ex_call (fun _ _ => by kernel_rfl) (h147.evs rfl) rfl) rfl rfl S148 (CheckTable_any (tofV l) A1 c1 A2 c2 _ (S148.rdOf (i := 5) rfl) (S148.rdOf (i := 1) rfl)) fun a149 X149 h149 S149 => ?_
       refine sl_new h149 (wn rfl) (f := fun b => .slice (some ⟨b, 0, none⟩) 2 2) (ex_bslice Tryz.underlying214 (by kernel_rfl) (by kernel_rfl) (h149.evs2 rfl) rfl rfl rfl (by decide) (by decide)) rfl rfl S149 fun b106 a150 X150 gb106 h150 S150 => ?_
       refine sl_pure h150 (wn rfl) (ex_call (fun _ _ => by kernel_rfl) (h150.evs rfl) rfl) rfl rfl (recovery_first2 (S150.at_ (i := 0) rfl)) fun a151 h151 => ?_
       refine ma h151 rfl rfl fun a152 h152 => ?_
       refine nsr ?_
       refine mv h152 rfl rfl fun a153 h153 => ?_
       refine sv h153 (ex_neq (h153.ev rfl) (h153.ev rfl)) fun a154 h154 => ?_
       refine st_nil (go_then ?_)
       refine st_if (h154.ev rfl) (fun hc1 => ?_) (fun hc1 => ?_)
       ·
        have hE : tofE l = firstE [unl (tofF l (tofN l) && tofG l (tofM l)) 3, tblE (tofV l)] := by unfold tofE; rw [if_neg (by omega), if_neg (by omega)]
        have hR : tofR l = tbl0 := by unfold tofR; rw [if_neg (by rw [hE]; simpa using hc1)]
        refine st_seq (st_reg ?_)
        refine sv h154 (ex_build (zs := [.slice none 0 0, .slice none 0 0]) (pl := [(0, 1), (1, 1)]) (by kernel_rfl) (by kernel_rfl) (h154.evs2 rfl) rfl rfl) fun a155 h155 => ?_
        refine mv h155 rfl rfl fun a156 h156 => ?_
        refine sl_store0 h156 (wn rfl) ⟨rfl, rfl⟩ (h156.ev rfl) (h156.ev rfl) rfl (by kernel_rfl) S150 (i := 12) rfl rfl rfl fun X157 S157 => ?_
        refine ma h156 rfl rfl fun a158 h158 => ?_
        refine st_nil (go_then (wp_ret (ret_then ?_)))
        refine fm_ret h158 ?_
        refine fm_mark S157 (i := 1) rfl (fun X159 S159 => ?_)
        refine fm_mark S159 (i := 5) rfl (fun X160 S160 => ?_)
        refine fm_nil h158 (fun a161 h161 => ?_)
        refine finct h161 rfl rfl rfl S160 (i := 12) rfl (by kernel_rfl) (by kernel_rfl) ?_
        refine ⟨(none, 0, none, 0), by rw [hR, hE]; rfl, ?_⟩
        rw [hR]
        exact ((S160.sub (List.nil_sublist _)).nilRow 124 3).nilRow 116 4
       ·
        have hE : tofE l = firstE [unl (tofF l (tofN l) && tofG l (tofM l)) 3, tblE (tofV l)] := by unfold tofE; rw [if_neg (by omega), if_neg (by omega)]
        have hz : tofE l = 0 := by rw [hE]; simpa using hc1
        have hR : tofR l = tofV l := by unfold tofR; rw [if_pos hz]
        refine wp_skip (go_then (st_seq (st_reg ?_)))
        refine sv h154 (ex_loads (by kernel_rfl) (by kernel_rfl) (h154.ev rfl) (S150.cellsAll (i := 10) rfl)) fun a162 h162 => ?_
        refine sl_store0 h162 (wn rfl) ⟨rfl, rfl⟩ (h162.ev rfl) (h162.ev rfl) rfl (by kernel_rfl) S150 (i := 12) rfl rfl rfl fun X163 S163 => ?_
        refine ma h162 rfl rfl fun a164 h164 => ?_
        refine st_nil (go_then (wp_ret ?_))
        refine fm_ret h164 ?_
        refine fm_mark S163 (i := 1) rfl (fun X165 S165 => ?_)
        refine fm_mark S165 (i := 5) rfl (fun X166 S166 => ?_)
        refine fm_nil h164 (fun a167 h167 => ?_)
        refine finct h167 rfl rfl rfl S166 (i := 12) rfl (by kernel_rfl) (by kernel_rfl) ?_
        refine ⟨(A1, c1, A2, c2), by rw [hR, hz]; rfl, ?_⟩
        rw [hR]
        exact St.swap (S166.sub (.cons _ (.cons _ (.cons_cons _ (.cons _ (.cons _ (.cons _ (.cons_cons _ (.cons _ (.cons _ (.cons _ (.cons _ (.cons _ (.cons _ .slnil))))))))))))))
      case hB => kernel_rfl
      case hst => rfl
 case hB => kernel_rfl
 case hst => rfl
end Go.Proofs.YtcfdpfmchchkaaaGreatDoor
namespace Go.Proofs.YtcfdpfmchchkaaaGreatDoor
set_option linter.unusedVariables false
set_option linter.unusedSimpArgs false
set_option maxRecDepth 4000
open Go.RowKit Go.Sort
def bsN {α : Type} (κ : α → Int) (l : List α) (n : Int) : Nat := (l.takeWhile fun x => decide (κ x < n)).length
theorem tw_len {α : Type} (p : α → Bool) : ∀ (l : List α) (i : Nat) (hi : i ≤ l.length), (∀ k (hk : k < l.length), k < i → p l[k] = true) → (∀ hk : i < l.length, p l[i] = false) → (l.takeWhile p).length = i
 | [], i, hi, _, _ => by simp at hi ⊢; omega
 | x :: l, 0, hi, _, h2 => by
  have := h2 (by simp)
  rw [List.takeWhile_cons, if_neg (by simpa using this)]; rfl
 | x :: l, i + 1, hi, h1, h2 => by
  have h0 := h1 0 (by simp) (by omega)
  rw [List.takeWhile_cons, if_pos (by simpa using h0), List.length_cons, tw_len p l i (by simpa using hi) (fun k hk hki => by have := h1 (k + 1) (by simpa using hk) (by omega); simpa using this) (fun hk => by have := h2 (by simpa using hk); simpa using this)]
def bsB {α : Type} (κ : α → Int) (l : List α) (n : Int) : Bool := (fndK κ l n).isSome
theorem bs_find {α : Type} {κ : α → Int} {l : List α} (hs : SrtK κ l) {n : Int} {i : Nat} (hi : i ≤ l.length) (h1 : ∀ k (hk : k < l.length), k < i → κ l[k] < n) (h2 : ∀ hk : i < l.length, n ≤ κ l[i]) :
 bsN κ l n = i ∧ fndK κ l n = if h : i < l.length then (if κ l[i] = n then some l[i] else none) else none := by
 refine ⟨tw_len _ l i hi (fun k hk hki => decide_eq_true (h1 k hk hki)) (fun hk => decide_eq_false (by have := h2 hk; omega)), ?_⟩
 unfold SrtK at hs
 rw [List.pairwise_iff_getElem] at hs
 split
 · rename_i hlt
   split
   · rename_i he
     have := fndK_mem (κ := κ) (l := l) (by unfold SrtK; rw [List.pairwise_iff_getElem]; exact hs) (List.getElem_mem hlt)
     rw [he] at this; exact this
   · rename_i hne
     refine fndK_none_of l n fun x hx hxn => ?_
     obtain ⟨k, hk, rfl⟩ := List.getElem_of_mem hx
     have h4 := h2 hlt
     rcases Nat.lt_trichotomy k i with h3 | h3 | h3
     · have := h1 k hk h3; omega
     · subst h3; omega
     · have := hs i k hlt hk h3; omega
 · rename_i hge
   refine fndK_none_of l n fun x hx hxn => ?_
   obtain ⟨k, hk, rfl⟩ := List.getElem_of_mem hx
   have := h1 k hk (by omega); omega
theorem cmpI_any (x y : Int) (w : World) : Calls Tryz.prog 195 #[.int .i64 x, .int .i64 y] w fun e w' => e = .returned (.int .i64 (Lib.compareInt x y)) ∧ w = w' :=
 (Tryz.cmp_Compare_int x y w).mono fun e w' ⟨h1, h2⟩ => ⟨h1, h2.symm⟩
theorem fnd1_any (x : Rcd) (n : Int) (w : World) : Calls Tryz.prog 194 #[rcdV x, .int .i64 n] w fun e w' => e = .returned (.int .i64 (Lib.compareInt x.l n)) ∧ Below w.heap.size w w' := by
 refine st_enter (N := 9) Tryz.func194 rfl rfl rfl (fun a0 h0 => ?_)
 have S0 := St.init w
 refine st_seq (st_reg ?_)
 refine nb h0 rfl rfl S0 fun b2 a1 X1 gb2 h1 S1 => ?_
 refine ma h1 rfl rfl fun a2 h2 => ?_
 refine nsr ?_
 refine vf h2 0 0 rfl rfl rfl fun a3 h3 => ?_
 refine vl h3 S1 0 rfl rfl rfl rfl fun a4 h4 => ?_
 refine mv h4 rfl rfl fun a5 h5 => ?_
 refine sl_pure h5 (wn rfl) (ex_call (fun _ _ => by kernel_rfl) (h5.evs rfl) rfl) rfl rfl (cmpI_any _ _ _) fun a6 h6 => ?_
 refine ma h6 rfl rfl fun a7 h7 => ?_
 refine st_nil (go_then (wp_ret ?_))
 refine fin1 h7 rfl rfl ?_
 exact ⟨rfl, S1.below⟩
theorem cmpI_neg {x y : Int} : Lib.compareInt x y < 0 ↔ x < y := by unfold Lib.compareInt; split <;> (try split) <;> omega
theorem cmpI_zero {x y : Int} : Lib.compareInt x y = 0 ↔ x = y := by unfold Lib.compareInt; split <;> (try split) <;> omega
theorem cmp_eqB {α : Type} (x n : Int) (y : α) : (Lib.compareInt x n == 0) = (if x = n then some y else none).isSome := by
 by_cases he : x = n
 · rw [if_pos he, cmpI_zero.2 he]; rfl
 · rw [if_neg he, beq_eq_false_iff_ne.2 (mt cmpI_zero.1 he)]; rfl
theorem bsH_any (l : List Rcd) (hs : SrtK Rcd.l l) (A : Option Addr) (c : Nat) (n : Int) (w : World) (hr : Rd w w.heap.size A (l.flatMap rcdL)) (hlen : l.length ≤ 1000) :
 Calls Tryz.prog 193 #[.slice A l.length c, .int .i64 n, .func (.func 194) #[] #[]] w fun e w' => e = .returned (.tuple #[.int .i64 (bsN Rcd.l l n), .bool (bsB Rcd.l l n)]) ∧ Below w.heap.size w w' := by
 have hp := List.pairwise_iff_getElem.1 hs
 refine st_enter (N := 49) Tryz.func193 rfl rfl rfl (fun a0 h0 => ?_)
 have S0 := St.init w
 refine st_seq (st_reg ?_)
 refine ma h0 rfl rfl fun a1 h1 => ?_
 refine ma h1 rfl rfl fun a2 h2 => ?_
 refine nsr ?_
 refine mv h2 rfl rfl fun a3 h3 => ?_
 refine sv h3 (ex_len Tryz.underlying180 (h3.ev rfl)) fun a4 h4 => ?_
 refine ma h4 rfl rfl fun a5 h5 => ?_
 refine nsr ?_
 refine mv h5 rfl rfl fun a6 h6 => ?_
 refine ma h6 rfl rfl fun a7 h7 => ?_
 refine ma h7 rfl rfl fun a8 h8 => ?_
 refine st_nil (go_then (st_seq (wp_block ?_)))
 refine st_loop h8 S0 [8, 7, 6, 0, 1, 2] (fun (q : Nat × Nat) => [(9, .int .i64 (q.1 : Nat)), (10, .int .i64 (q.2 : Nat))]) (fun (q : Nat × Nat) => q.1 ≤ q.2 ∧ q.2 ≤ l.length ∧ (∀ k (hk : k < l.length), k < q.1 → l[k].l < n) ∧ (∀ k (hk : k < l.length), q.2 ≤ k → n ≤ l[k].l)) (fun (q : Nat × Nat) L => L) (fun (q : Nat × Nat) => q.2 - q.1) ((0, l.length)) (⟨Nat.zero_le _, Nat.le_refl _, fun k _ h => absurd h (Nat.not_lt_zero _), fun k hk h => by omega⟩) ⟨rfl, rfl, rfl, rfl, rfl, rfl, rfl, rfl, trivial⟩ (S0) ?_
 intro q a9 X9 hF0 h9 S9
 refine st_seq (st_seq (st_reg ?_))
 refine mv h9 rfl rfl fun a10 h10 => ?_
 refine mv h10 rfl rfl fun a11 h11 => ?_
 refine sv h11 (ex_lss (h11.ev rfl) (h11.ev rfl)) fun a12 h12 => ?_
 refine st_nil (go_then ?_)
 refine st_if (h12.ev rfl) (fun hc0 => ?_) (fun hc0 => ?_)
 ·
  have hlt : q.1 < q.2 := by have := of_decide_eq_true hc0; omega
  have hq2 := hF0.2.1
  obtain ⟨b, o, rfl, hB, _⟩ := hr.opened (flat_pos rcdL_len (by decide) (by omega))
  have hm : (q.1 + q.2) / 2 < l.length := by omega
  refine wp_skip (go_then (wp_block (st_seq (st_reg ?_))))
  refine mv h12 rfl rfl fun a13 h13 => ?_
  refine mv h13 rfl rfl fun a14 h14 => ?_
  refine sv h14 (ex_add (h14.ev rfl) (h14.ev rfl) (by omega)) fun a15 h15 => ?_
  refine sv h15 (ex_convin (by kernel_rfl) Tryz.underlying215 (h15.ev rfl) (wrap_u64 (by omega))) fun a16 h16 => ?_
  refine sv h16 (ex_shr (n := 1) (h16.ev rfl) (h16.ev rfl) rfl (by omega)) fun a17 h17 => ?_
  refine sv h17 (as_val (v' := .int .i64 (((q.1 + q.2) / 2 : Nat) : Int)) (congrArg _ (by omega)) (ex_convin (by kernel_rfl) Tryz.underlying3 (h17.ev rfl) (wrap_in (by omega)))) fun a18 h18 => ?_
  refine ma h18 rfl rfl fun a19 h19 => ?_
  refine nsr ?_
  refine mv h19 rfl rfl fun a20 h20 => ?_
  refine mv h20 rfl rfl fun a21 h21 => ?_
  refine mv h21 rfl rfl fun a22 h22 => ?_
  refine sv h22 (ex_index (i := (q.1 + q.2) / 2) (sz := 14) Tryz.underlying180 (by kernel_rfl) (h22.ev rfl) (h22.ev rfl) (by omega) (by omega) rfl) fun a23 h23 => ?_
  refine sv (v := rcdV l[(q.1 + q.2) / 2]) h23 (ex_loads (by kernel_rfl) (by kernel_rfl) (h23.ev rfl) (flatAt rcdL_len (S9.rd0 hr) hm)) fun a24 h24 => ?_
  refine mv h24 rfl rfl fun a25 h25 => ?_
  refine sl_bel h25 (wn rfl) (ex_callv (fun _ _ => by kernel_rfl) (h25.ev rfl) (h25.evs rfl) rfl) rfl rfl S9 (fnd1_any _ _ _) fun a26 X26 h26 S26 => ?_
  refine sv h26 (ex_lss (h26.ev rfl) (h26.ev rfl)) fun a27 h27 => ?_
  refine st_nil (go_then ?_)
  refine st_if (h27.ev rfl) (fun hc1 => ?_) (fun hc1 => ?_)
  ·
   have hx : l[(q.1 + q.2) / 2].l < n := cmpI_neg.1 (of_decide_eq_true hc1)
   have hlo : ∀ k (hk : k < l.length), k ≤ (q.1 + q.2) / 2 → l[k].l < n := fun k hk hki => by
    rcases Nat.lt_or_eq_of_le hki with h | h
    · have := hp k _ hk hm h; omega
    · subst h; exact hx
   refine st_reg ?_
   refine mv h27 rfl rfl fun a28 h28 => ?_
   refine sv h28 (ex_add (h28.ev rfl) (h28.ev rfl) (by omega)) fun a29 h29 => ?_
   refine ma h29 rfl rfl fun a30 h30 => ?_
   refine st_nil (go_block (go_then ?_))
   exact ⟨((q.1 + q.2) / 2 + 1, q.2), (by show q.2 - ((q.1 + q.2) / 2 + 1) < q.2 - q.1; omega), ⟨by show (q.1 + q.2) / 2 + 1 ≤ q.2; omega, hF0.2.1, fun k hk hki => hlo k hk (by have : k < (q.1 + q.2) / 2 + 1 := hki; omega), hF0.2.2.2⟩, h30.re ⟨rfl, rfl, rfl, rfl, rfl, rfl, rfl, rfl, trivial⟩, S26⟩
  ·
   have hx : n ≤ l[(q.1 + q.2) / 2].l := by
    have := mt cmpI_neg.2 (of_decide_eq_false hc1)
    omega
   have hhi : ∀ k (hk : k < l.length), (q.1 + q.2) / 2 ≤ k → n ≤ l[k].l := fun k hk hki => by
    rcases Nat.lt_or_eq_of_le hki with h | h
    · have := hp _ k hm hk h; omega
    · subst h; exact hx
   refine st_reg ?_
   refine mv h27 rfl rfl fun a31 h31 => ?_
   refine ma h31 rfl rfl fun a32 h32 => ?_
   refine st_nil (go_block (go_then ?_))
   exact ⟨(q.1, (q.1 + q.2) / 2), (by show (q.1 + q.2) / 2 - q.1 < q.2 - q.1; omega), ⟨by show q.1 ≤ (q.1 + q.2) / 2; omega, by show (q.1 + q.2) / 2 ≤ l.length; omega, hF0.2.2.1, fun k hk hki => hhi k hk hki⟩, h32.re ⟨rfl, rfl, rfl, rfl, rfl, rfl, rfl, rfl, trivial⟩, S26⟩
 ·
  have hge : q.1 = q.2 := by have := of_decide_eq_false hc0; have := hF0.1; omega
  obtain ⟨hb1, hb2⟩ := bs_find hs (n := n) (i := q.1) (by have := hF0.2.1; omega) hF0.2.2.1 (fun hk => hF0.2.2.2 q.1 hk (by omega))
  refine wp_exit ?_
  refine go_exit_then ?_
  refine go_exit_then ?_
  refine go_exit ?_
  refine go_then (st_seq (st_reg ?_))
  refine mv h12 rfl rfl fun a33 h33 => ?_
  refine mv h33 rfl rfl fun a34 h34 => ?_
  refine mv h34 rfl rfl fun a35 h35 => ?_
  refine sv h35 (ex_lss (h35.ev rfl) (h35.ev rfl)) fun a36 h36 => ?_
  refine mv h36 rfl rfl fun a37 h37 => ?_
  apply sl_and (x := bsB Rcd.l l n) h37 S9 39 rfl 9 48
  case ht =>
   intro gc39
   have hlt1 : q.1 < l.length := by have := of_decide_eq_true gc39; omega
   obtain ⟨b, o, rfl, hB, _⟩ := hr.opened (flat_pos rcdL_len (by decide) (by omega))
   refine sy h37 rfl rfl rfl gc39 (ex_move (h37.ev rfl)) rfl rfl fun a38 h38 => ?_
   refine sy h38 rfl rfl rfl gc39 (ex_move (h38.ev rfl)) rfl rfl fun a39 h39 => ?_
   refine sy h39 rfl rfl rfl gc39 (ex_move (h39.ev rfl)) rfl rfl fun a40 h40 => ?_
   refine sy h40 rfl rfl rfl gc39 (ex_index (i := q.1) (sz := 14) Tryz.underlying180 (by kernel_rfl) (h40.ev rfl) (h40.ev rfl) (by omega) (by omega) rfl) rfl rfl fun a41 h41 => ?_
   refine sl_val (v := rcdV l[q.1]) h41 (wanted_yes h41 _ rfl rfl rfl gc39) (ex_loads (by kernel_rfl) (by kernel_rfl) (h41.ev rfl) (flatAt rcdL_len (S9.rd0 hr) hlt1)) rfl rfl fun a42 h42 => ?_
   refine sy h42 rfl rfl rfl gc39 (ex_move (h42.ev rfl)) rfl rfl fun a43 h43 => ?_
   refine sl_bel h43 (wanted_yes h43 _ rfl rfl rfl gc39) (ex_callv (fun _ _ => by kernel_rfl) (h43.ev rfl) (h43.evs rfl) rfl) rfl rfl S9 (fnd1_any _ _ _) fun a44 X44 h44 S44 => ?_
   refine sy h44 rfl rfl rfl gc39 (as_val (v' := .bool (bsB Rcd.l l n)) (congrArg Value.bool (by unfold bsB; rw [hb2, dif_pos hlt1]; exact cmp_eqB _ _ _)) (ex_eql (h44.ev rfl) (h44.ev rfl))) rfl rfl fun a45 h45 => ?_
   refine sv h45 (ex_pick_t (h45.ev rfl) gc39 (h45.ev rfl)) fun a46 h46 => ?_
   exact st_nil ⟨h46.mid (m := [(_, _), (_, _), (_, _), (_, _), (_, _), (_, _), (_, _), (_, _)]) rfl, S44⟩
  case hf =>
   intro gc39
   refine no h37 rfl rfl rfl gc39 rfl rfl fun a47 h47 => ?_
   refine no h47 rfl rfl rfl gc39 rfl rfl fun a48 h48 => ?_
   refine no h48 rfl rfl rfl gc39 rfl rfl fun a49 h49 => ?_
   refine no h49 rfl rfl rfl gc39 rfl rfl fun a50 h50 => ?_
   refine no h50 rfl rfl rfl gc39 rfl rfl fun a51 h51 => ?_
   refine no h51 rfl rfl rfl gc39 rfl rfl fun a52 h52 => ?_
   refine no h52 rfl rfl rfl gc39 rfl rfl fun a53 h53 => ?_
   refine no h53 rfl rfl rfl gc39 rfl rfl fun a54 h54 => ?_
   refine sv h54 (ex_pick_f (h54.ev rfl) gc39 (h54.ev rfl)) fun a55 h55 => ?_
   exact st_nil ⟨h55.mid (m := [(_, _), (_, _), (_, _), (_, _), (_, _), (_, _), (_, _), (_, _)]) rfl, S9⟩
  case h =>
   rintro a56 X56 ⟨h56, S56⟩
   refine ma h56 rfl rfl fun a57 h57 => ?_
   refine ma h57 rfl rfl fun a58 h58 => ?_
   refine st_nil (go_then (wp_ret ?_))
   refine fin2 h58 rfl rfl rfl ?_
   refine ⟨?_, S56.below⟩
   have e : (decide ((q.1 : Int) < (l.length : Int)) && bsB Rcd.l l n) = bsB Rcd.l l n := by
    unfold bsB
    rw [hb2]
    by_cases h : q.1 < l.length
    · rw [decide_eq_true (by omega)]; rfl
    · rw [dif_neg h]; simp
   rw [e, hb1]
theorem bs_some {α : Type} {κ : α → Int} {l : List α} (hs : SrtK κ l) {n : Int} (h : bsB κ l n = true) : ∃ hk : bsN κ l n < l.length, κ l[bsN κ l n] = n ∧ fndK κ l n = some l[bsN κ l n] := by
 unfold bsB at h
 obtain ⟨x, hx⟩ := Option.isSome_iff_exists.1 h
 obtain ⟨hm, hn⟩ := fndK_some hx
 obtain ⟨k, hk, rfl⟩ := List.getElem_of_mem hm
 have hs2 := hs
 unfold SrtK at hs2
 rw [List.pairwise_iff_getElem] at hs2
 have e : bsN κ l n = k := tw_len _ l k (by omega) (fun j hj hjk => decide_eq_true (by have := hs2 j k hj hk hjk; omega)) (fun _ => decide_eq_false (by omega))
 simp only [e]
 exact ⟨hk, hn, hx⟩
def entP (A : Option Addr) (k : Nat) : Value := match A with
 | some a => .pointer (some ⟨a.block, a.off + k * 14 + 1, none⟩)
 | none => .pointer none
theorem find_any (l : List Rcd) (hs : SrtK Rcd.l l) (A : Option Addr) (c : Nat) (n : Int) (w : World) (hr : Rd w w.heap.size A (l.flatMap rcdL)) (hlen : l.length ≤ 1000) :
 Calls Tryz.prog 129 #[.slice A l.length c, .int .i64 n] w fun e w' => e = .returned (if bsB Rcd.l l n = true then entP A (bsN Rcd.l l n) else .pointer none) ∧ Below w.heap.size w w' := by
 refine st_enter (N := 19) Tryz.func129 rfl rfl rfl (fun a0 h0 => ?_)
 have S0 := St.init w
 refine st_seq (st_reg ?_)
 refine ma h0 rfl rfl fun a1 h1 => ?_
 refine nsr ?_
 refine mv h1 rfl rfl fun a2 h2 => ?_
 refine mv h2 rfl rfl fun a3 h3 => ?_
 refine sl_bel h3 (wn rfl) (ex_call (fun _ _ => by kernel_rfl) (h3.evs rfl) rfl) rfl rfl S0 (bsH_any l hs A c n _ (S0.rd0 hr) hlen) fun a4 X4 h4 S4 => ?_
 refine mv h4 rfl rfl fun a5 h5 => ?_
 refine vx h5 rfl rfl rfl fun a6 h6 => ?_
 refine vx h6 rfl rfl rfl fun a7 h7 => ?_
 refine ma h7 rfl rfl fun a8 h8 => ?_
 refine ma h8 rfl rfl fun a9 h9 => ?_
 refine st_nil (go_then (st_seq (st_seq (st_reg ?_))))
 refine mv h9 rfl rfl fun a10 h10 => ?_
 refine sv h10 (ex_not (h10.ev rfl)) fun a11 h11 => ?_
 refine st_nil (go_then ?_)
 refine st_if (h11.ev rfl) (fun hc0 => ?_) (fun hc0 => ?_)
 ·
  have hb : bsB Rcd.l l n = false := by simpa using hc0
  refine st_seq (st_reg ?_)
  refine ma h11 rfl rfl fun a12 h12 => ?_
  refine st_nil (go_then (wp_ret (ret_then ?_)))
  refine fin1 h12 rfl rfl ?_
  exact ⟨by rw [hb]; rfl, S4.below⟩
 ·
  have hb : bsB Rcd.l l n = true := by simpa using hc0
  obtain ⟨hk, _, _⟩ := bs_some hs hb
  obtain ⟨b, o, rfl, hB, _⟩ := hr.opened (flat_pos rcdL_len (by decide) (by omega))
  refine wp_skip (go_then (st_seq (st_reg ?_)))
  refine mv h11 rfl rfl fun a13 h13 => ?_
  refine mv h13 rfl rfl fun a14 h14 => ?_
  refine sv h14 (ex_index (i := bsN Rcd.l l n) (sz := 14) Tryz.underlying180 (by kernel_rfl) (h14.ev rfl) (h14.ev rfl) (by omega) (by omega) rfl) fun a15 h15 => ?_
  refine sv h15 (ex_field (off := 1) (by kernel_rfl) (h15.ev rfl) rfl) fun a16 h16 => ?_
  refine ma h16 rfl rfl fun a17 h17 => ?_
  refine st_nil (go_then (wp_ret ?_))
  refine fin1 h17 rfl rfl ?_
  exact ⟨by rw [hb]; rfl, S4.below⟩
def fndA (A : Option Addr) (l : List Rcd) (n : Int) : Option Addr := if bsB Rcd.l l n = true then A.map (fun a => ⟨a.block, a.off + bsN Rcd.l l n * 14 + 1, none⟩) else none
theorem findA_any (l : List Rcd) (hs : SrtK Rcd.l l) (A : Option Addr) (c : Nat) (n : Int) (w : World) (hr : Rd w w.heap.size A (l.flatMap rcdL)) (hlen : l.length ≤ 1000) :
 Calls Tryz.prog 129 #[.slice A l.length c, .int .i64 n] w fun e w' => e = .returned (.pointer (fndA A l n)) ∧ Below w.heap.size w w' :=
 (find_any l hs A c n w hr hlen).mono fun e w' ⟨h1, h2⟩ => ⟨by rw [h1]; unfold fndA entP; split <;> cases A <;> rfl, h2⟩
theorem entAt {X : World} {B b o k : Nat} {l : List Rcd} (h : Rd X B (some ⟨b, o, none⟩) (l.flatMap rcdL)) (hk : k < l.length) : ∀ (j : Nat) (u : Value), (entVs l[k].e)[j]? = some u → X.cell? ⟨b, o + k * 14 + 1 + j, none⟩ = some u := fun j u hu => by
 have := flatAt rcdL_len h hk (1 + j) u (by rw [Nat.add_comm]; exact hu)
 rwa [← Nat.add_assoc] at this
theorem opcAt {X : World} {B b o k : Nat} {l : List Rcd} (h : Rd X B (some ⟨b, o, none⟩) (l.flatMap rcdL)) (hk : k < l.length) : ∀ (j : Nat) (u : Value), [Value.int .i64 l[k].e.o.k, .int .i64 l[k].e.o.a, .int .i64 l[k].e.o.e, .int .i64 l[k].e.o.c, .string l[k].e.o.o, .string l[k].e.o.n][j]? = some u → X.cell? ⟨b, o + k * 14 + 1 + 6 + j, none⟩ = some u := fun j u hu => by
 have := entAt h hk (6 + j) u (by
  rw [Nat.add_comm]
  match j, hu with
  | 0, hu => exact hu
  | 1, hu => exact hu
  | 2, hu => exact hu
  | 3, hu => exact hu
  | 4, hu => exact hu
  | 5, hu => exact hu
  | j + 6, hu => simp at hu)
 rwa [← Nat.add_assoc] at this
theorem fndA_some {l : List Rcd} (hs : SrtK Rcd.l l) {A : Addr} {n : Int} (h : (fndA (some A) l n).isNone = false) : ∃ hk : bsN Rcd.l l n < l.length, l[bsN Rcd.l l n].l = n ∧ fndI l n = some l[bsN Rcd.l l n] ∧ fndA (some A) l n = some ⟨A.block, A.off + bsN Rcd.l l n * 14 + 1, none⟩ := by
 unfold fndA at h ⊢
 split at h
 · rename_i hb
   obtain ⟨hk, h1, h2⟩ := bs_some hs hb
   exact ⟨hk, h1, h2, by rw [if_pos hb]; rfl⟩
 · cases h
theorem fndA_none {l : List Rcd} {A : Addr} {n : Int} (h : (fndA (some A) l n).isNone = true) : fndI l n = none := by
 unfold fndA at h
 split at h
 · cases h
 · rename_i hb
   unfold bsB at hb
   rwa [Bool.not_eq_true, Option.isSome_eq_false_iff, Option.isNone_iff_eq_none] at hb
end Go.Proofs.YtcfdpfmchchkaaaGreatDoor
