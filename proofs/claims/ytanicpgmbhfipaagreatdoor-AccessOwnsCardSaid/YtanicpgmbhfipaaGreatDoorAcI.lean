/-
  Drawn regions whose loud operations may be guarded.
  Chapter 17: copies of descriptors that are read; equal ones; descriptors that grant the same do not differ.
  Chapter 17: a descriptor simplified: the reference.
  Chapter 17: tokens, descriptors, identities that came in; the laid table.
-/
import Derived.Test.YtanicpgmbhfipaaGreatDoorSplD
import Derived.Test.YtanicpgmbhfipaaGreatDoorAcH
import Derived.Test.YtanicpgmbhfipaaGreatDoorAcG
import Derived.Test.YtanicpgmbhfipaaGreatDoorSplC
import Derived.Test.YtanicpgmbhfipaaGreatDoorKitB
import Derived.Test.YtanicpgmbhfipaaGreatDoorKitD
namespace Go.Proofs.YtanicpgmbhfipaaGreatDoor
set_option linter.unusedVariables false
set_option linter.unusedSimpArgs false
open Go.RowKit Go.Sort
variable {ds : List Deferred}
end Go.Proofs.YtanicpgmbhfipaaGreatDoor
namespace Go.Proofs.YtanicpgmbhfipaaGreatDoor
set_option linter.unusedVariables false
set_option linter.unusedSimpArgs false
set_option maxRecDepth 4000
open Go.RowKit Go.Sort Go.Shelf
theorem RdI.keep {X X' : World} {lo hi : Nat} {A : Option Addr} {xs : List Value} (h : RdI X lo hi A xs) (hb : ∀ b, lo ≤ b ∧ b < hi → X'.heap[b]? = X.heap[b]?) : RdI X' lo hi A xs := fun j u hj => by
 obtain ⟨b, o, e, h1, h2, h3⟩ := h j u hj
 exact ⟨b, o, e, h1, h2, (World.cell?_of_block (w := X) (a := ⟨b, o + j, none⟩) (hb b ⟨h1, h2⟩)).trans h3⟩
def rd2E (lo hi : Nat) (A B : Option Addr) (xs ys : List Value) : Ent := .inv (fun b => lo ≤ b ∧ b < hi) (fun X => RdI X lo hi A xs ∧ RdI X lo hi B ys) (fun X X' ⟨h1, h2⟩ hb => ⟨h1.keep hb, h2.keep hb⟩)
theorem St.rd2 {M : List Nat} {w X : World} {L : List Ent} {i lo hi : Nat} {A B : Option Addr} {xs ys : List Value} (h : St M w X L) (hi' : L[i]? = some (rd2E lo hi A B xs ys)) : Rd X X.heap.size A xs ∧ Rd X X.heap.size B ys := by
 obtain ⟨h1, h2⟩ : RdI X lo hi A xs ∧ RdI X lo hi B ys := h.at_ hi'
 have hn : ∀ b, lo ≤ b ∧ b < hi → b < X.heap.size := fun b hb => (h.new _ (List.mem_of_getElem? hi') b hb).2
 exact ⟨fun j u hj => (by obtain ⟨b, o, e, q1, q2, q3⟩ := h1 j u hj; exact ⟨b, o, e, hn b ⟨q1, q2⟩, q3⟩), fun j u hj => (by obtain ⟨b, o, e, q1, q2, q3⟩ := h2 j u hj; exact ⟨b, o, e, hn b ⟨q1, q2⟩, q3⟩)⟩
theorem RdI.of_own {w : World} {base : Nat} {e : TypeId} {size n c : Nat} {A : Option Addr} {xs : List Value} (h : w.ownsRow base e size (.slice A n c) n xs) : RdI w base w.heap.size A xs := fun j u hj => by
 obtain ⟨b, o, rfl, h1, h2⟩ := Rd.of_own h j u hj
 exact ⟨b, o, rfl, (h.lt b rfl).1, h1, h2⟩
theorem CopyDsc_rd (d : DscP) (A1 A2 : Option Addr) (c1 c2 : Nat) (w : World) (h1 : d.es.length ≤ 500) (h2 : d.us.length ≤ 500) (hr1 : Rd w w.heap.size A1 (acesV d.es)) (hr2 : Rd w w.heap.size A2 (acesV d.us)) :
 Calls Tryz.prog 12 #[dscV d A1 A2 c1 c2] w fun e w' => ∃ i : (Option Addr × Nat) × (Option Addr × Nat) × Nat × Nat, e = .returned (dscV d i.1.1 i.2.1.1 i.1.2 i.2.1.2) ∧ St [] w w' [rd2E i.2.2.1 i.2.2.2 i.1.1 i.2.1.1 (acesV d.es) (acesV d.us)] := by
 refine (CopyDsc_own d A1 A2 c1 c2 w h1 h2 hr1 hr2).mono ?_
 rintro e w' ⟨B1, B2, k1, k2, rfl, g1, g2, hb⟩
 exact ⟨((B1, k1), (B2, k2), w.heap.size, w'.heap.size), rfl, (St.init w).add hb (e := rd2E w.heap.size w'.heap.size B1 B2 (acesV d.es) (acesV d.us)) ⟨RdI.of_own g1, RdI.of_own g2⟩ (fun b hb' => hb')⟩
theorem eqL_ace (a : AceP) : eqL (aceV a) (aceV a) = true := by
 unfold aceV
 simp [eqL, eqV2]
theorem SameA_any (l : List AceP) (A B : Option Addr) (c d : Nat) (w : World) (hr : Rd w w.heap.size A (acesV l)) (hs : Rd w w.heap.size B (acesV l)) (hl : l.length ≤ 1000) :
 Calls Tryz.prog 75 #[.slice A l.length c, .slice B l.length d] w fun e w' => e = .returned (.bool true) ∧ Below w.heap.size w w' := by
 refine st_enter (N := 26) Tryz.func75 rfl rfl rfl (fun a0 h0 => ?_)
 have S0 := St.init w
 refine st_seq (st_reg ?_)
 refine ma h0 fun a1 h1 => ?_
 refine st_nil (go_then (st_seq (st_seq (st_reg ?_))))
 refine mv h1 fun a2 h2 => ?_
 refine sv h2 (ex_len Tryz.underlying22 (h2.ev rfl)) fun a3 h3 => ?_
 refine mv h3 fun a4 h4 => ?_
 refine sv h4 (ex_len Tryz.underlying22 (h4.ev rfl)) fun a5 h5 => ?_
 refine sv h5 (ex_neq (h5.ev rfl) (h5.ev rfl)) fun a6 h6 => ?_
 refine st_nil (go_then ?_)
 refine st_if_f (h6.ev rfl) ((by simp)) ?_
 refine wp_skip (go_then (st_seq (st_seq (st_reg ?_))))
 refine ma h6 fun a7 h7 => ?_
 refine st_nil (go_then (wp_block ?_))
 refine st_loop h7 S0 [0, 1] (fun (j : Nat) => [(5, .int .i64 (j : Nat))]) (fun (j : Nat) => j ≤ l.length) (fun (j : Nat) L => L) (fun (j : Nat) => l.length - j) (0) (Nat.zero_le _) ⟨rfl, rfl, rfl, trivial⟩ (S0) ?_
 intro j a8 X8 hF0 h8 S8
 refine st_seq (st_seq (st_reg ?_))
 refine mvv h8 fun a10 h10 => ?_
 refine sv h10 (ex_len Tryz.underlying22 (h10.ev rfl)) fun a11 h11 => ?_
 refine sv h11 (ex_lss (h11.ev rfl) (h11.ev rfl)) fun a12 h12 => ?_
 refine st_nil (go_then ?_)
 refine st_if (h12.ev rfl) (fun hc1 => ?_) (fun hc1 => ?_)
 ·
  have hlt : j < l.length := by have := of_decide_eq_true hc1; omega
  obtain ⟨b, o, rfl, hB, _⟩ := hr.opened (by rw [acesF_len]; omega)
  obtain ⟨b', o', rfl, hB', _⟩ := hs.opened (by rw [acesF_len]; omega)
  refine wp_skip (go_then (st_seq (wp_block (st_seq ?_))))
  apply dr_flow h12 [false, false, false, false, false, false, false, false] _ (by kernel_rfl)
  case h =>
   refine qv h12 (fun X hX => ex_move (h12.ev rfl)) fun a13 h13 => ?_
   refine qv h13 (fun X hX => ex_move (h13.ev rfl)) fun a14 h14 => ?_
   refine qv h14 (fun X hX => ex_index (i := j) (sz := 4) Tryz.underlying22 (by kernel_rfl) (h14.ev rfl) (h14.ev rfl) (by omega) (by omega) rfl) fun a15 h15 => ?_
   refine qv (v := aceU l[j]) h15 (fun X hX => ex_loads (by kernel_rfl) (by kernel_rfl) (h15.ev rfl) (acesAt ((S8.grow hX).rd0 hr) hlt)) fun a16 h16 => ?_
   refine qv h16 (fun X hX => ex_move (h16.ev rfl)) fun a17 h17 => ?_
   refine qv h17 (fun X hX => ex_move (h17.ev rfl)) fun a18 h18 => ?_
   refine qv h18 (fun X hX => ex_index (i := j) (sz := 4) Tryz.underlying22 (by kernel_rfl) (h18.ev rfl) (h18.ev rfl) (by omega) (by omega) rfl) fun a19 h19 => ?_
   refine qv (v := aceU l[j]) h19 (fun X hX => ex_loads (by kernel_rfl) (by kernel_rfl) (h19.ev rfl) (acesAt ((S8.grow hX).rd0 hs) hlt)) fun a20 h20 => ?_
   refine sq_nil ?_
   refine nd_end fun X21 hX21 hΦ21 => ?_
   have S21 := S8.grow hX21
   refine sv h20 (ex_tneq (ks := [.i .i64, .i .i64, .i .i64, .i .i64]) (by kernel_rfl) Tryz.underlying111 (by kernel_rfl) (h20.ev rfl) (h20.ev rfl) rfl rfl) fun a22 h22 => ?_
   refine st_nil (go_then ?_)
   refine st_if_f (h22.ev rfl) ((congrArg (! ·) (eqL_ace l[j]))) ?_
   refine wp_skip (go_block (go_then (st_reg ?_)))
   refine mv h22 fun a23 h23 => ?_
   refine sv h23 (ex_add (h23.ev rfl) (h23.ev rfl) (by omega)) fun a24 h24 => ?_
   refine ma h24 fun a25 h25 => ?_
   refine st_nil (go_then ?_)
   exact ⟨j + 1, (by omega), hlt, h25.re ⟨rfl, rfl, rfl, trivial⟩, S21⟩
  case hB => kernel_rfl
  case hst => rfl
 ·
  have hge : l.length ≤ j := by have := of_decide_eq_false hc1; omega
  refine wp_exit ?_
  refine go_exit_then ?_
  refine go_exit_then ?_
  refine go_exit ?_
  refine go_then (st_seq (st_reg ?_))
  refine ma h12 fun a26 h26 => ?_
  refine st_nil (go_then (wp_ret ?_))
  refine fin1 h26 rfl rfl ?_
  exact ⟨rfl, S8.below⟩
set_option maxHeartbeats 2000000 in
theorem SameD_any (d : DscP) (A1 A2 B1 B2 : Option Addr) (m1 m2 k1 k2 : Nat) (w : World) (hl1 : d.es.length ≤ 500) (hl2 : d.us.length ≤ 500) (hr1 : Rd w w.heap.size A1 (acesV d.es)) (hr2 : Rd w w.heap.size A2 (acesV d.us)) (hs1 : Rd w w.heap.size B1 (acesV d.es)) (hs2 : Rd w w.heap.size B2 (acesV d.us)) :
 Calls Tryz.prog 38 #[dscV d A1 A2 m1 m2, dscV d B1 B2 k1 k2] w fun e w' => e = .returned (.bool true) ∧ Below w.heap.size w w' := by
 refine st_enter (N := 45) Tryz.func38 rfl rfl rfl (fun a0 h0 => ?_)
 have S0 := St.init w
 refine st_seq (st_reg ?_)
 refine nb h0 rfl rfl S0 fun b2 a1 X1 gb2 h1 S1 => ?_
 refine nb h1 rfl rfl S1 fun b3 a2 X2 gb3 h2 S2 => ?_
 refine ma h2 fun a3 h3 => ?_
 refine nsr ?_
 refine vf h3 0 0 fun a4 h4 => ?_
 refine vl h4 S2 1 fun a5 h5 => ?_
 refine vf h5 0 0 fun a6 h6 => ?_
 refine vl h6 S2 0 fun a7 h7 => ?_
 refine sv h7 (ex_eql (h7.ev rfl) (h7.ev rfl)) fun a8 h8 => ?_
 refine mv h8 fun a9 h9 => ?_
 refine sl_val h9 (wanted_yes h9 _ rfl rfl rfl ((by simp))) (fx 1 1 (h9.ev rfl)) rfl rfl fun a10 h10 => ?_
 refine sl_val h10 (wanted_yes h10 _ rfl rfl rfl ((by simp))) (lx (h10.ev rfl) (S2.cell (i := 1) rfl rfl)) rfl rfl fun a11 h11 => ?_
 refine sl_val h11 (wanted_yes h11 _ rfl rfl rfl ((by simp))) (fx 1 1 (h11.ev rfl)) rfl rfl fun a12 h12 => ?_
 refine sl_val h12 (wanted_yes h12 _ rfl rfl rfl ((by simp))) (lx (h12.ev rfl) (S2.cell (i := 0) rfl rfl)) rfl rfl fun a13 h13 => ?_
 refine sl_val h13 (wanted_yes h13 _ rfl rfl rfl ((by simp))) (ex_eql (h13.ev rfl) (h13.ev rfl)) rfl rfl fun a14 h14 => ?_
 refine sv h14 (ex_pick_t (h14.ev rfl) ((by simp)) (h14.ev rfl)) fun a15 h15 => ?_
 refine mv h15 fun a16 h16 => ?_
 refine sl_val h16 (wanted_yes h16 _ rfl rfl rfl ((by simp))) (fx 2 2 (h16.ev rfl)) rfl rfl fun a17 h17 => ?_
 refine sl_val h17 (wanted_yes h17 _ rfl rfl rfl ((by simp))) (lx (h17.ev rfl) (S2.cell (i := 1) rfl rfl)) rfl rfl fun a18 h18 => ?_
 refine sl_val h18 (wanted_yes h18 _ rfl rfl rfl ((by simp))) (fx 2 2 (h18.ev rfl)) rfl rfl fun a19 h19 => ?_
 refine sl_val h19 (wanted_yes h19 _ rfl rfl rfl ((by simp))) (lx (h19.ev rfl) (S2.cell (i := 0) rfl rfl)) rfl rfl fun a20 h20 => ?_
 refine sl_val h20 (wanted_yes h20 _ rfl rfl rfl ((by simp))) (ex_beql Tryz.underlying4 (h20.ev rfl) (h20.ev rfl)) rfl rfl fun a21 h21 => ?_
 refine sv h21 (ex_pick_t (h21.ev rfl) ((by simp)) (h21.ev rfl)) fun a22 h22 => ?_
 refine mv h22 fun a23 h23 => ?_
 refine sl_val h23 (wanted_yes h23 _ rfl rfl rfl ((by simp))) (fx 3 3 (h23.ev rfl)) rfl rfl fun a24 h24 => ?_
 refine sl_val h24 (wanted_yes h24 _ rfl rfl rfl ((by simp))) (lx (h24.ev rfl) (S2.cell (i := 1) rfl rfl)) rfl rfl fun a25 h25 => ?_
 refine sl_val h25 (wanted_yes h25 _ rfl rfl rfl ((by simp))) (fx 3 3 (h25.ev rfl)) rfl rfl fun a26 h26 => ?_
 refine sl_val h26 (wanted_yes h26 _ rfl rfl rfl ((by simp))) (lx (h26.ev rfl) (S2.cell (i := 0) rfl rfl)) rfl rfl fun a27 h27 => ?_
 refine sl_val h27 (wanted_yes h27 _ rfl rfl rfl ((by simp))) (ex_beql Tryz.underlying4 (h27.ev rfl) (h27.ev rfl)) rfl rfl fun a28 h28 => ?_
 refine sv h28 (ex_pick_t (h28.ev rfl) ((by simp)) (h28.ev rfl)) fun a29 h29 => ?_
 refine mv h29 fun a30 h30 => ?_
 refine sl_val h30 (wanted_yes h30 _ rfl rfl rfl ((by simp))) (fx 4 4 (h30.ev rfl)) rfl rfl fun a31 h31 => ?_
 refine sl_val h31 (wanted_yes h31 _ rfl rfl rfl ((by simp))) (lx (h31.ev rfl) (S2.cell (i := 1) rfl rfl)) rfl rfl fun a32 h32 => ?_
 refine sl_val h32 (wanted_yes h32 _ rfl rfl rfl ((by simp))) (fx 4 4 (h32.ev rfl)) rfl rfl fun a33 h33 => ?_
 refine sl_val h33 (wanted_yes h33 _ rfl rfl rfl ((by simp))) (lx (h33.ev rfl) (S2.cell (i := 0) rfl rfl)) rfl rfl fun a34 h34 => ?_
 refine sl_bel h34 (wanted_yes h34 _ rfl rfl rfl ((by simp))) (ex_call (fun _ _ => by kernel_rfl) (h34.evs rfl) rfl) rfl rfl S2 (SameA_any d.es A1 B1 m1 k1 _ (S2.rd0 hr1) (S2.rd0 hs1) (by omega)) fun a35 X35 h35 S35 => ?_
 refine sv h35 (ex_pick_t (h35.ev rfl) ((by simp)) (h35.ev rfl)) fun a36 h36 => ?_
 refine mv h36 fun a37 h37 => ?_
 refine sl_val h37 (wanted_yes h37 _ rfl rfl rfl (rfl)) (fx 5 5 (h37.ev rfl)) rfl rfl fun a38 h38 => ?_
 refine sl_val h38 (wanted_yes h38 _ rfl rfl rfl (rfl)) (lx (h38.ev rfl) (S35.cell (i := 1) rfl rfl)) rfl rfl fun a39 h39 => ?_
 refine sl_val h39 (wanted_yes h39 _ rfl rfl rfl (rfl)) (fx 5 5 (h39.ev rfl)) rfl rfl fun a40 h40 => ?_
 refine sl_val h40 (wanted_yes h40 _ rfl rfl rfl (rfl)) (lx (h40.ev rfl) (S35.cell (i := 0) rfl rfl)) rfl rfl fun a41 h41 => ?_
 refine sl_bel h41 (wanted_yes h41 _ rfl rfl rfl (rfl)) (ex_call (fun _ _ => by kernel_rfl) (h41.evs rfl) rfl) rfl rfl S35 (SameA_any d.us A2 B2 m2 k2 _ (S35.rd0 hr2) (S35.rd0 hs2) (by omega)) fun a42 X42 h42 S42 => ?_
 refine sv h42 (ex_pick_t (h42.ev rfl) (rfl) (h42.ev rfl)) fun a43 h43 => ?_
 refine ma h43 fun a44 h44 => ?_
 refine st_nil (go_then (wp_ret ?_))
 refine fin1 h44 rfl rfl ?_
 exact ⟨rfl, S42.below⟩
end Go.Proofs.YtanicpgmbhfipaaGreatDoor
namespace Go.Proofs.YtanicpgmbhfipaaGreatDoor
set_option linter.unusedVariables false
set_option linter.unusedSimpArgs false
set_option maxRecDepth 4000
open Go.RowKit Go.Sort Go.Shelf
end Go.Proofs.YtanicpgmbhfipaaGreatDoor
namespace Go.Proofs.YtanicpgmbhfipaaGreatDoor
set_option linter.unusedVariables false
set_option linter.unusedSimpArgs false
open Go.ChangeShapes Go.WideShapes Go.ChangeAt Go.RowKit
theorem flat_ints (l : List Int) : l.flatMap (fun x => [Value.int .i64 x]) = l.map (.int .i64) := by
 induction l with
 | nil => rfl
 | cons x l ih => rw [List.flatMap_cons, ih]; rfl
theorem ace_length (x : AceP) : (aceV x).length = 4 := rfl
set_option maxRecDepth 100000 in
theorem trod_ints {H : Type} {enc : TypeId × Value → H} {W : World} {fuel : Nat} {cs : List Value} {x : DataW H × List MemPlace}
 (h : DataW.trod enc Tryz.prog W 0 (fun _ => true) true fuel 25 cs = some x) : ∃ (A : Option Addr) (c : Nat) (l : List Int), cs = [.slice A l.length c] ∧ l.length ≤ maxLen ∧ Rd W W.heap.size A (l.map (.int .i64)) := by
 obtain ⟨A, c, l, h1, h2, h3, _⟩ := trod_list (fun x : Int => [.int .i64 x]) 1 (fun _ => rfl) (fun _ => True) Tryz.underlying25 (by kernel_rfl) (fun fuel cs x hl h => by
  match cs, hl with
  | [u], _ =>
   obtain ⟨y, e, _, _⟩ := DataW.trod_int Tryz.underlying3 h
   exact ⟨y, e, trivial⟩) h
 rw [flat_ints] at h3
 exact ⟨A, c, l, h1, h2, h3⟩
set_option maxRecDepth 100000 in
theorem trod_aces {H : Type} {enc : TypeId × Value → H} {W : World} {fuel : Nat} {cs : List Value} {x : DataW H × List MemPlace}
 (h : DataW.trod enc Tryz.prog W 0 (fun _ => true) true fuel 22 cs = some x) : ∃ (A : Option Addr) (c : Nat) (l : List AceP), cs = [.slice A l.length c] ∧ l.length ≤ maxLen ∧ Rd W W.heap.size A (acesV l) := by
 obtain ⟨A, c, l, h1, h2, h3, _⟩ := trod_list aceV 4 ace_length (fun _ => True) Tryz.underlying22 (by kernel_rfl) (fun fuel cs x hl h => by
  obtain ⟨xs, k, hk, hxy, _, hxl, hf⟩ := DataW.trod_struct Tryz.underlying111 h
  match xs, hxl, cs, hl with
  | [y0, y1, y2, y3], _, [c0, c1, c2, c3], _ =>
   have ci : Tryz.prog.cellsOf 3 = 1 := by kernel_rfl
   have g0 := hf 0 _ rfl
   have g1 := hf 1 _ rfl
   have g2 := hf 2 _ rfl
   have g3 := hf 3 _ rfl
   simp [ci] at g0 g1 g2 g3
   obtain ⟨x0, e0, _, _⟩ := DataW.trod_int Tryz.underlying3 g0
   obtain ⟨x1, e1, _, _⟩ := DataW.trod_int Tryz.underlying3 g1
   obtain ⟨x2, e2, _, _⟩ := DataW.trod_int Tryz.underlying3 g2
   obtain ⟨x3, e3, _, _⟩ := DataW.trod_int Tryz.underlying3 g3
   simp only [List.cons.injEq, and_true] at e0 e1 e2 e3
   exact ⟨⟨x0, x1, x2, x3⟩, by rw [e0, e1, e2, e3]; rfl, trivial⟩) h
 exact ⟨A, c, l, h1, h2, h3⟩
structure TokA where
 t : TokP
 A : Option Addr
 c : Nat
def tokL (x : TokA) : List Value := [.int .i64 x.t.u, .slice x.A x.t.gs.length x.c, .int .i64 x.t.p]
set_option maxRecDepth 100000 in
theorem open_tok {H : Type} {enc : TypeId × Value → H} {W : World} {r : Reach} {base : Nat} {v : Value} {d : DataW H} {p : List MemPlace}
 (hv : Value.okWide Tryz.prog W r base 27 v) (h : DataW.Trod enc Tryz.prog W 0 (fun _ => true) true 27 v d p) :
 ∃ (t : TokP) (A : Option Addr) (c : Nat), v = tokV t A c ∧ t.gs.length ≤ maxLen ∧ Rd W W.heap.size A (t.gs.map (.int .i64)) := by
 obtain ⟨y, h1, h2, h3⟩ := open_val (α := TokA) tokL 3 (fun x => x.t.gs.length ≤ maxLen ∧ Rd W W.heap.size x.A (x.t.gs.map (.int .i64))) Tryz.underlying27 (by kernel_rfl) (fun fuel cs x hl h => by
  obtain ⟨xs, k, hk, hxy, _, hxl, hf⟩ := DataW.trod_struct Tryz.underlying27 h
  match xs, hxl, cs, hl with
  | [y0, y1, y2], _, [c0, c1, c2], _ =>
   have ci : Tryz.prog.cellsOf 3 = 1 := by kernel_rfl
   have cl : Tryz.prog.cellsOf 25 = 1 := by kernel_rfl
   have g0 := hf 0 _ rfl
   have g1 := hf 1 _ rfl
   have g2 := hf 2 _ rfl
   simp [ci, cl] at g0 g1 g2
   obtain ⟨x0, e0, _, _⟩ := DataW.trod_int Tryz.underlying3 g0
   obtain ⟨A1, k1, l1, e1, m1, r1⟩ := trod_ints g1
   obtain ⟨x2, e2, _, _⟩ := DataW.trod_int Tryz.underlying3 g2
   simp only [List.cons.injEq, and_true] at e0 e1 e2
   exact ⟨⟨⟨x0, l1, x2⟩, A1, k1⟩, by rw [e0, e1, e2]; rfl, m1, r1⟩) hv h
 exact ⟨y.t, y.A, y.c, h1, h2, h3⟩
structure DscA where
 d : DscP
 A1 : Option Addr
 A2 : Option Addr
 c1 : Nat
 c2 : Nat
def dscL (x : DscA) : List Value := [.int .i64 x.d.o, .int .i64 x.d.g, .bool x.d.pr, .bool x.d.he, .slice x.A1 x.d.es.length x.c1, .slice x.A2 x.d.us.length x.c2]
def DscI (W : World) (x : DscA) : Prop := Rd W W.heap.size x.A1 (acesV x.d.es) ∧ Rd W W.heap.size x.A2 (acesV x.d.us)
set_option maxRecDepth 100000 in
theorem trod_dsc {H : Type} {enc : TypeId × Value → H} {W : World} {fuel : Nat} {cs : List Value} {x : DataW H × List MemPlace} (hl : cs.length = 6)
 (h : DataW.trod enc Tryz.prog W 0 (fun _ => true) true fuel 24 cs = some x) : ∃ y, cs = dscL y ∧ DscI W y := by
 obtain ⟨xs, k, hk, hxy, _, hxl, hf⟩ := DataW.trod_struct Tryz.underlying24 h
 match xs, hxl, cs, hl with
 | [y0, y1, y2, y3, y4, y5], _, [c0, c1, c2, c3, c4, c5], _ =>
  have ci : Tryz.prog.cellsOf 3 = 1 := by kernel_rfl
  have cb : Tryz.prog.cellsOf 4 = 1 := by kernel_rfl
  have cl : Tryz.prog.cellsOf 22 = 1 := by kernel_rfl
  have g0 := hf 0 _ rfl
  have g1 := hf 1 _ rfl
  have g2 := hf 2 _ rfl
  have g3 := hf 3 _ rfl
  have g4 := hf 4 _ rfl
  have g5 := hf 5 _ rfl
  simp [ci, cb, cl] at g0 g1 g2 g3 g4 g5
  obtain ⟨x0, e0, _, _⟩ := DataW.trod_int Tryz.underlying3 g0
  obtain ⟨x1, e1, _, _⟩ := DataW.trod_int Tryz.underlying3 g1
  obtain ⟨x2, e2, _⟩ := DataW.trod_bool Tryz.underlying4 g2
  obtain ⟨x3, e3, _⟩ := DataW.trod_bool Tryz.underlying4 g3
  obtain ⟨A4, k4, l4, e4, m4, r4⟩ := trod_aces g4
  obtain ⟨A5, k5, l5, e5, m5, r5⟩ := trod_aces g5
  simp only [List.cons.injEq, and_true] at e0 e1 e2 e3 e4 e5
  exact ⟨⟨⟨x0, x1, x2, x3, l4, l5⟩, A4, A5, k4, k5⟩, by rw [e0, e1, e2, e3, e4, e5]; rfl, r4, r5⟩
def dsc2V (a : DscP) (A1 A2 : Option Addr) (a1 a2 : Nat) (b : DscP) (B1 B2 : Option Addr) (b1 b2 : Nat) : Value := .agg #[.int .i64 a.o, .int .i64 a.g, .bool a.pr, .bool a.he, .slice A1 a.es.length a1, .slice A2 a.us.length a2, .int .i64 b.o, .int .i64 b.g, .bool b.pr, .bool b.he, .slice B1 b.es.length b1, .slice B2 b.us.length b2]
set_option maxRecDepth 100000 in
theorem open_dsc2 {H : Type} {enc : TypeId × Value → H} {W : World} {r : Reach} {base : Nat} {v : Value} {d : DataW H} {p : List MemPlace}
 (hv : Value.okWide Tryz.prog W r base 64 v) (h : DataW.Trod enc Tryz.prog W 0 (fun _ => true) true 64 v d p) :
 ∃ (a : DscP) (A1 A2 : Option Addr) (a1 a2 : Nat) (b : DscP) (B1 B2 : Option Addr) (b1 b2 : Nat), v = dsc2V a A1 A2 a1 a2 b B1 B2 b1 b2 ∧ (Rd W W.heap.size A1 (acesV a.es) ∧ Rd W W.heap.size A2 (acesV a.us)) ∧ Rd W W.heap.size B1 (acesV b.es) ∧ Rd W W.heap.size B2 (acesV b.us) := by
 obtain ⟨⟨x, y⟩, h1, h2, h3⟩ := open_arr (α := DscA × DscA) (fun y => dscL y.1 ++ dscL y.2) 12 (fun y => DscI W y.1 ∧ DscI W y.2) Tryz.underlying64 (by kernel_rfl) (fun fuel cs x hl h => by
  obtain ⟨xs, m, _, _, _, hxl, hf⟩ := DataW.trod_array Tryz.underlying64 h
  have hC : Tryz.prog.cellsOf 24 = 6 := by kernel_rfl
  rw [hC] at hf
  have g0 := hf 0 (by omega)
  have g1 := hf 1 (by omega)
  rw [Nat.zero_mul, List.drop_zero, List.getElem?_eq_getElem (by omega)] at g0
  rw [Nat.one_mul, List.getElem?_eq_getElem (by omega)] at g1
  obtain ⟨a, ea, a1⟩ := trod_dsc (by rw [List.length_take]; omega) g0
  obtain ⟨b, eb, b1⟩ := trod_dsc (by rw [List.length_take, List.length_drop]; omega) g1
  refine ⟨(a, b), ?_, a1, b1⟩
  show cs = dscL a ++ dscL b
  rw [← ea, ← eb, List.take_of_length_le (l := cs.drop 6) (by rw [List.length_drop]; omega), List.take_append_drop]) hv h
 exact ⟨x.d, x.A1, x.A2, x.c1, x.c2, y.d, y.A1, y.A2, y.c1, y.c2, h1, h2, h3⟩
end Go.Proofs.YtanicpgmbhfipaaGreatDoor
