/-
  Chapter 17: entries compared.
  Chapter 17: who may replace (the reference).
  Chapter 16: what the program's heir hands on.
  Chapter 16: entries that the program's heir hands on.
  Chapter 16: DeleteFunc where there is nothing; entries that are handed down.
  Chapter 17: ownership taken.
-/
import Derived.Test.YtanicpgmbhfipaaGreatDoorAcI
import Derived.Test.YtanicpgmbhfipaaGreatDoorAcJ
import Derived.Test.YtanicpgmbhfipaaGreatDoorWAcSim
namespace Go.Proofs.YtanicpgmbhfipaaGreatDoor
set_option linter.unusedVariables false
set_option linter.unusedSimpArgs false
set_option maxRecDepth 4000
open Go.RowKit Go.Sort Go.Shelf
theorem eqL_aces (a b : AceP) : eqL (aceV a) (aceV b) = true ↔ a = b := by
 obtain ⟨k, f, m, v⟩ := a
 obtain ⟨k', f', m', v'⟩ := b
 unfold aceV
 simp [eqL, eqV2]
theorem SameAg_any (l m : List AceP) (A B : Option Addr) (c d : Nat) (w : World) (hr : Rd w w.heap.size A (acesV l)) (hs : Rd w w.heap.size B (acesV m)) (hl : l.length ≤ 1000) (hm : m.length ≤ 1000) :
 Calls Tryz.prog 75 #[.slice A l.length c, .slice B m.length d] w fun e w' => (∃ r : Bool, e = .returned (.bool r) ∧ (r = true ↔ l = m)) ∧ Below w.heap.size w w' := by
 refine st_enter (N := 26) Tryz.func75 rfl rfl rfl (fun a0 h0 => ?_)
 have S0 := St.init w
 refine st_seq (st_reg ?_)
 refine ma h0 fun a1 h1 => ?_
 refine st_nil (go_then (st_seq (st_seq (st_reg ?_))))
 refine mv h1 fun a2 h2 => ?_
 refine sv h2 (ex_len Tryz.underlying22 (h2.ev rfl)) fun a3 h3 => ?_
 refine mv h3 fun a4 h4 => ?_
 refine sv h4 (ex_len Tryz.underlying22 (h4.ev rfl)) fun a5 h5 => ?_
 refine sv h5 (ex_neq (h5.ev rfl) (h5.ev rfl)) fun a6 h6 => ?_
 refine st_nil (go_then ?_)
 refine st_if (h6.ev rfl) (fun hc0 => ?_) (fun hc0 => ?_)
 ·
  have hne : l ≠ m := fun q => by rw [q] at hc0; simp at hc0
  refine st_seq (st_reg ?_)
  refine ma h6 fun a7 h7 => ?_
  refine st_nil (go_then (wp_ret (ret_then ?_)))
  refine fin1 h7 rfl rfl ?_
  exact ⟨⟨false, rfl, by simp [hne]⟩, S0.below⟩
 ·
  have hle : l.length = m.length := by have : ((l.length : Int) != m.length) = false := hc0; simp at this; omega
  refine wp_skip (go_then (st_seq (st_seq (st_reg ?_))))
  refine ma h6 fun a8 h8 => ?_
  refine st_nil (go_then (wp_block ?_))
  refine st_loop h8 S0 [0, 1] (fun (j : Nat) => [(5, .int .i64 (j : Nat))]) (fun (j : Nat) => j ≤ l.length ∧ ∀ k (h1 : k < l.length) (h2 : k < m.length), k < j → l[k] = m[k]) (fun (j : Nat) L => L) (fun (j : Nat) => l.length - j) (0) (⟨Nat.zero_le _, fun k _ _ h => absurd h (Nat.not_lt_zero _)⟩) ⟨rfl, rfl, rfl, trivial⟩ (S0) ?_
  intro j a9 X9 hF0 h9 S9
  refine st_seq (st_seq (st_reg ?_))
  refine mvv h9 fun a11 h11 => ?_
  refine sv h11 (ex_len Tryz.underlying22 (h11.ev rfl)) fun a12 h12 => ?_
  refine sv h12 (ex_lss (h12.ev rfl) (h12.ev rfl)) fun a13 h13 => ?_
  refine st_nil (go_then ?_)
  refine st_if (h13.ev rfl) (fun hc1 => ?_) (fun hc1 => ?_)
  ·
   have hlt : j < l.length := by have := of_decide_eq_true hc1; omega
   have hlt' : j < m.length := by omega
   obtain ⟨b, o, rfl, hB, _⟩ := hr.opened (by rw [acesF_len]; omega)
   obtain ⟨b', o', rfl, hB', _⟩ := hs.opened (by rw [acesF_len]; omega)
   refine wp_skip (go_then (st_seq (wp_block (st_seq ?_))))
   apply dr_flow h13 [false, false, false, false, false, false, false, false] _ (by kernel_rfl)
   case h =>
    refine qv h13 (fun X hX => ex_move (h13.ev rfl)) fun a14 h14 => ?_
    refine qv h14 (fun X hX => ex_move (h14.ev rfl)) fun a15 h15 => ?_
    refine qv h15 (fun X hX => ex_index (i := j) (sz := 4) Tryz.underlying22 (by kernel_rfl) (h15.ev rfl) (h15.ev rfl) (by omega) (by omega) rfl) fun a16 h16 => ?_
    refine qv (v := aceU l[j]) h16 (fun X hX => ex_loads (by kernel_rfl) (by kernel_rfl) (h16.ev rfl) (acesAt ((S9.grow hX).rd0 hr) hlt)) fun a17 h17 => ?_
    refine qv h17 (fun X hX => ex_move (h17.ev rfl)) fun a18 h18 => ?_
    refine qv h18 (fun X hX => ex_move (h18.ev rfl)) fun a19 h19 => ?_
    refine qv h19 (fun X hX => ex_index (i := j) (sz := 4) Tryz.underlying22 (by kernel_rfl) (h19.ev rfl) (h19.ev rfl) (by omega) (by omega) rfl) fun a20 h20 => ?_
    refine qv (v := aceU m[j]) h20 (fun X hX => ex_loads (by kernel_rfl) (by kernel_rfl) (h20.ev rfl) (acesAt ((S9.grow hX).rd0 hs) hlt')) fun a21 h21 => ?_
    refine sq_nil ?_
    refine nd_end fun X22 hX22 hΦ22 => ?_
    have S22 := S9.grow hX22
    refine sv h21 (ex_tneq (ks := [.i .i64, .i .i64, .i .i64, .i .i64]) (by kernel_rfl) Tryz.underlying111 (by kernel_rfl) (h21.ev rfl) (h21.ev rfl) rfl rfl) fun a23 h23 => ?_
    refine st_nil (go_then ?_)
    refine st_if (h23.ev rfl) (fun hc2 => ?_) (fun hc2 => ?_)
    ·
     have hx0 : (!eqL (aceV l[j]) (aceV m[j])) = true := hc2
     have hx : ¬ eqL (aceV l[j]) (aceV m[j]) = true := fun q => by rw [q] at hx0; cases hx0
     have hne : l ≠ m := fun q => by subst q; exact hx (eqL_ace _)
     refine st_seq (st_reg ?_)
     refine ma h23 fun a24 h24 => ?_
     refine st_nil (go_then (wp_ret (ret_block (ret_then (ret_then (ret_block (ret_then ?_)))))))
     refine fin1 h24 rfl rfl ?_
     exact ⟨⟨false, rfl, by simp [hne]⟩, S22.below⟩
    ·
     have hx : (!eqL (aceV l[j]) (aceV m[j])) = false := hc2
     have heq : l[j] = m[j] := (eqL_aces _ _).1 (by simpa using hx)
     refine wp_skip (go_block (go_then (st_reg ?_)))
     refine mv h23 fun a25 h25 => ?_
     refine sv h25 (ex_add (h25.ev rfl) (h25.ev rfl) (by omega)) fun a26 h26 => ?_
     refine ma h26 fun a27 h27 => ?_
     refine st_nil (go_then ?_)
     exact ⟨j + 1, (by omega), ⟨hlt, fun k h1 h2 hk => by rcases Nat.lt_or_eq_of_le (show k ≤ j by omega) with q | q; exact hF0.2 k h1 h2 q; subst q; exact heq⟩, h27.re ⟨rfl, rfl, rfl, trivial⟩, S22⟩
   case hB => kernel_rfl
   case hst => rfl
  ·
   have hge : l.length ≤ j := by have := of_decide_eq_false hc1; omega
   have heq : l = m := List.ext_getElem hle fun k h1 h2 => hF0.2 k h1 h2 (by omega)
   refine wp_exit ?_
   refine go_exit_then ?_
   refine go_exit_then ?_
   refine go_exit ?_
   refine go_then (st_seq (st_reg ?_))
   refine ma h13 fun a28 h28 => ?_
   refine st_nil (go_then (wp_ret ?_))
   refine fin1 h28 rfl rfl ?_
   exact ⟨⟨true, rfl, by simp [heq]⟩, S9.below⟩
end Go.Proofs.YtanicpgmbhfipaaGreatDoor
namespace Go.Proofs.YtanicpgmbhfipaaGreatDoor
set_option linter.unusedVariables false
set_option linter.unusedSimpArgs false
set_option maxRecDepth 4000
open Go.RowKit Go.Sort Go.Shelf
open Classical in
noncomputable def sameB (l m : List AceP) : Bool := decide (l = m)
theorem SameAb_any (l m : List AceP) (A B : Option Addr) (c d : Nat) (w : World) (hr : Rd w w.heap.size A (acesV l)) (hs : Rd w w.heap.size B (acesV m)) (hl : l.length ≤ 1000) (hm : m.length ≤ 1000) :
 Calls Tryz.prog 75 #[.slice A l.length c, .slice B m.length d] w fun e w' => e = .returned (.bool (sameB l m)) ∧ Below w.heap.size w w' := by
 refine (SameAg_any l m A B c d w hr hs hl hm).mono ?_
 rintro e w' ⟨⟨r, rfl, h⟩, hb⟩
 refine ⟨?_, hb⟩
 classical
 unfold sameB
 by_cases q : l = m
 · rw [h.2 q]; exact congrArg (fun x => Ending.returned (.bool x)) (by symm; simpa using q)
 · cases r with
   | true => exact absurd (h.1 rfl) q
   | false => exact congrArg (fun x => Ending.returned (.bool x)) (by symm; simpa using q)
def mrB (d e : DscP) (t : TokP) : Bool := grtB d t 7 && (d.o == e.o || (grtB d t 8 && (e.o == t.u || t.gs.contains e.o)))
noncomputable def mrG (d e : DscP) (t : TokP) : Bool := mrB d e t && (sameB d.us e.us || bitI t.p 2)
theorem MayReplace_any (d e : DscP) (t : TokP) (A1 A2 B1 B2 A : Option Addr) (c1 c2 e1 e2 c : Nat) (w : World) (hd : DT d t A1 A2 A w) (he : DT e t B1 B2 A w) (ho : dtO d t) (hp : 0 ≤ t.p ∧ t.p ≤ 15) :
 Calls Tryz.prog 49 #[dscV d A1 A2 c1 c2, dscV e B1 B2 e1 e2, tokV t A c] w fun r w' => r = .returned (.bool (mrG d e t)) ∧ Below w.heap.size w w' := by
 have hl3 := hd.l3
 obtain ⟨Y, hY⟩ : ∃ Y, Y = mrG d e t := ⟨_, rfl⟩
 have hYd := hY
 unfold mrG mrB at hYd
 rw [← hY]
 refine st_enter (N := 57) Tryz.func49 rfl rfl rfl (fun a0 h0 => ?_)
 have S0 := St.init w
 refine st_seq (st_reg ?_)
 refine nb h0 rfl rfl S0 fun b3 a1 X1 gb3 h1 S1 => ?_
 refine nb h1 rfl rfl S1 fun b4 a2 X2 gb4 h2 S2 => ?_
 refine nb h2 rfl rfl S2 fun b5 a3 X3 gb5 h3 S3 => ?_
 refine ma h3 fun a4 h4 => ?_
 refine st_nil (go_then (st_seq (st_seq (st_reg ?_))))
 refine sv (v := dscV d A1 A2 c1 c2) h4 (ex_loads (by kernel_rfl) (by kernel_rfl) (h4.ev rfl) (S3.cellsAll (i := 2) rfl)) fun a5 h5 => ?_
 refine sv (v := tokV t A c) h5 (ex_loads (by kernel_rfl) (by kernel_rfl) (h5.ev rfl) (S3.cellsAll (i := 0) rfl)) fun a6 h6 => ?_
 refine sl_bel h6 (wn rfl) (ex_call (fun _ _ => by kernel_rfl) (h6.evs rfl) rfl) rfl rfl S3 (By_any d t A1 A2 A c1 c2 c 7 _ (hd.below S3.below) ho (by decide)) fun a7 X7 h7 S7 => ?_
 refine mv h7 fun a8 h8 => ?_
 refine vx h8 fun a9 h9 => ?_
 refine vx h9 fun a10 h10 => ?_
 refine maa h10 fun a12 h12 => ?_
 refine nsr ?_
 refine mv h12 fun a13 h13 => ?_
 refine sv h13 (ex_not (h13.ev rfl)) fun a14 h14 => ?_
 refine st_nil (go_then ?_)
 refine st_if (h14.ev rfl) (fun hc0 => ?_) (fun hc0 => ?_)
 ·
  refine st_seq (st_reg ?_)
  refine ma h14 fun a15 h15 => ?_
  refine st_nil (go_then (wp_ret (ret_then ?_)))
  refine fin1 h15 rfl rfl ?_
  exact ⟨congrArg (fun x => Ending.returned (.bool x)) (by rw [hYd]; revert hc0; cases grtB d t 7 <;> simp), S7.below⟩
 ·
  refine wp_skip (go_then (st_seq (st_seq (st_reg ?_))))
  refine vf h14 0 0 fun a16 h16 => ?_
  refine vl h16 S7 2 fun a17 h17 => ?_
  refine vf h17 0 0 fun a18 h18 => ?_
  refine vl h18 S7 1 fun a19 h19 => ?_
  refine sv h19 (ex_neq (h19.ev rfl) (h19.ev rfl)) fun a20 h20 => ?_
  refine st_nil (go_then ?_)
  refine st_if (h20.ev rfl) (fun hc1 => ?_) (fun hc1 => ?_)
  ·
   refine st_seq (st_reg ?_)
   refine sv (v := dscV d A1 A2 c1 c2) h20 (ex_loads (by kernel_rfl) (by kernel_rfl) (h20.ev rfl) (S7.cellsAll (i := 2) rfl)) fun a21 h21 => ?_
   refine sv (v := tokV t A c) h21 (ex_loads (by kernel_rfl) (by kernel_rfl) (h21.ev rfl) (S7.cellsAll (i := 0) rfl)) fun a22 h22 => ?_
   refine sl_bel h22 (wn rfl) (ex_call (fun _ _ => by kernel_rfl) (h22.evs rfl) rfl) rfl rfl S7 (By_any d t A1 A2 A c1 c2 c 8 _ (hd.below S7.below) ho (by decide)) fun a23 X23 h23 S23 => ?_
   refine mv h23 fun a24 h24 => ?_
   refine vx h24 fun a25 h25 => ?_
   refine vx h25 fun a26 h26 => ?_
   refine maa h26 fun a28 h28 => ?_
   refine nsr ?_
   refine mv h28 fun a29 h29 => ?_
   refine sv h29 (ex_not (h29.ev rfl)) fun a30 h30 => ?_
   refine mv h30 fun a31 h31 => ?_
   apply sl_or h31 S23 32 rfl 14 46
   case hf =>
    intro gc32
    refine sy h31 (fx 0 0 (h31.ev rfl)) fun a32 h32 => ?_
    refine sy h32 (lx (h32.ev rfl) (S23.cell (i := 1) rfl rfl)) fun a33 h33 => ?_
    refine sy h33 (fx 0 0 (h33.ev rfl)) fun a34 h34 => ?_
    refine sy h34 (lx (h34.ev rfl) (S23.cell (i := 0) rfl rfl)) fun a35 h35 => ?_
    refine sy h35 (ex_neq (h35.ev rfl) (h35.ev rfl)) fun a36 h36 => ?_
    refine sy h36 (ex_move (h36.ev rfl)) fun a37 h37 => ?_
    apply sl_and h37 S23 38 rfl 7 45
    case ht =>
     intro gc38
     refine sy h37 (fx 1 1 (h37.ev rfl)) fun a38 h38 => ?_
     refine sy h38 (lx (h38.ev rfl) (S23.cell (i := 0) rfl rfl)) fun a39 h39 => ?_
     refine sy h39 (fx 0 0 (h39.ev rfl)) fun a40 h40 => ?_
     refine sy h40 (lx (h40.ev rfl) (S23.cell (i := 1) rfl rfl)) fun a41 h41 => ?_
     refine sl_pure h41 (wanted_yes h41 _ rfl rfl rfl gc38) (ex_call (fun _ _ => by kernel_rfl) (h41.evs rfl) rfl) rfl rfl (baseHas_any A c t.gs e.o _ (by omega) ((hd.below S23.below).r3)) fun a42 h42 => ?_
     refine sy h42 (ex_not (h42.ev rfl)) fun a43 h43 => ?_
     refine sy h43 (ex_pick_t (h43.ev rfl) gc38 (h43.ev rfl)) fun a44 h44 => ?_
     exact st_nil ⟨h44.mid (m := [(_, _), (_, _), (_, _), (_, _), (_, _), (_, _)]) rfl, S23⟩
    case hf =>
     intro gc38
     refine no h37 fun a45 h45 => ?_
     refine no h45 fun a46 h46 => ?_
     refine no h46 fun a47 h47 => ?_
     refine no h47 fun a48 h48 => ?_
     refine no h48 fun a49 h49 => ?_
     refine no h49 fun a50 h50 => ?_
     refine sy h50 (ex_pick_f (h50.ev rfl) gc38 (h50.ev rfl)) fun a51 h51 => ?_
     exact st_nil ⟨h51.mid (m := [(_, _), (_, _), (_, _), (_, _), (_, _), (_, _)]) rfl, S23⟩
    case h =>
     rintro a52 X52 ⟨h52, S52⟩
     refine sv h52 (ex_pick_f (h52.ev rfl) gc32 (h52.ev rfl)) fun a53 h53 => ?_
     exact st_nil ⟨h53.mid (m := [(_, _), (_, _), (_, _), (_, _), (_, _), (_, _), (_, _)]) rfl, S52⟩
   case ht =>
    intro gc32
    refine no h31 fun a54 h54 => ?_
    refine no h54 fun a55 h55 => ?_
    refine no h55 fun a56 h56 => ?_
    refine no h56 fun a57 h57 => ?_
    refine no h57 fun a58 h58 => ?_
    refine no h58 fun a59 h59 => ?_
    refine sl_no h59 (wanted_not h59 _ rfl rfl rfl) rfl rfl fun a60 h60 => ?_
    refine sl_no h60 (wanted_not h60 _ rfl rfl rfl) rfl rfl fun a61 h61 => ?_
    refine sl_no h61 (wanted_not h61 _ rfl rfl rfl) rfl rfl fun a62 h62 => ?_
    refine sl_no h62 (wanted_not h62 _ rfl rfl rfl) rfl rfl fun a63 h63 => ?_
    refine sl_no h63 (wanted_not h63 _ rfl rfl rfl) rfl rfl fun a64 h64 => ?_
    refine sl_no h64 (wanted_not h64 _ rfl rfl rfl) rfl rfl fun a65 h65 => ?_
    refine no h65 fun a66 h66 => ?_
    refine sv h66 (ex_pick_t (h66.ev rfl) gc32 (h66.ev rfl)) fun a67 h67 => ?_
    exact st_nil ⟨h67.mid (m := [(_, _), (_, _), (_, _), (_, _), (_, _), (_, _), (_, _), (_, _), (_, _), (_, _), (_, _), (_, _), (_, _)]) rfl, S23⟩
   case h =>
    rintro a68 X68 ⟨h68, S68⟩
    refine st_nil (go_then ?_)
    refine st_if (h68.ev rfl) (fun hc2 => ?_) (fun hc2 => ?_)
    ·
     refine st_seq (st_reg ?_)
     refine ma h68 fun a69 h69 => ?_
     refine st_nil (go_then (wp_ret (ret_then ?_)))
     refine fin1 h69 rfl rfl ?_
     exact ⟨congrArg (fun x => Ending.returned (.bool x)) (by rw [hYd]; revert hc0 hc1 hc2; simp only [bne]; cases (d.o == e.o) <;> cases grtB d t 7 <;> cases grtB d t 8 <;> cases (e.o == t.u) <;> cases t.gs.contains e.o <;> simp), S68.below⟩
    ·
     refine wp_skip (go_then (st_seq (st_reg ?_)))
     refine vf h68 5 5 fun a70 h70 => ?_
     refine vl h70 S68 2 fun a71 h71 => ?_
     refine vf h71 5 5 fun a72 h72 => ?_
     refine vl h72 S68 1 fun a73 h73 => ?_
     refine sl_bel h73 (wn rfl) (ex_call (fun _ _ => by kernel_rfl) (h73.evs rfl) rfl) rfl rfl S68 (SameAb_any d.us e.us A2 B2 c2 e2 _ ((hd.below S68.below).r2) ((he.below S68.below).r2) (by have := hd.l2; omega) (by have := he.l2; omega)) fun a74 X74 h74 S74 => ?_
     refine mv h74 fun a75 h75 => ?_
     apply sl_or h75 S74 52 rfl 4 56
     case hf =>
      intro gc52
      refine sy h75 (fx 2 2 (h75.ev rfl)) fun a76 h76 => ?_
      refine sy h76 (lx (h76.ev rfl) (S74.cell (i := 0) rfl rfl)) fun a77 h77 => ?_
      refine sl_pure h77 (wanted_yes h77 _ rfl rfl rfl gc52) (ex_call (fun _ _ => by kernel_rfl) (h77.evs rfl) rfl) rfl rfl (refHas_any t.p 4 _ hp.1 (by omega) (by decide) (by decide)) fun a78 h78 => ?_
      refine sv h78 (ex_pick_f (h78.ev rfl) gc52 (h78.ev rfl)) fun a79 h79 => ?_
      exact st_nil ⟨h79.mid (m := [(_, _), (_, _), (_, _)]) rfl, S74⟩
     case ht =>
      intro gc52
      refine no h75 fun a80 h80 => ?_
      refine no h80 fun a81 h81 => ?_
      refine no h81 fun a82 h82 => ?_
      refine sv h82 (ex_pick_t (h82.ev rfl) gc52 (h82.ev rfl)) fun a83 h83 => ?_
      exact st_nil ⟨h83.mid (m := [(_, _), (_, _), (_, _)]) rfl, S74⟩
     case h =>
      rintro a84 X84 ⟨h84, S84⟩
      refine ma h84 fun a85 h85 => ?_
      refine st_nil (go_then (wp_ret ?_))
      refine fin1 h85 rfl rfl ?_
      exact ⟨congrArg (fun x => Ending.returned (.bool x)) (by rw [hYd]; show (sameB d.us e.us || bitI t.p 2) = _; revert hc0 hc1 hc2; simp only [bne]; cases (d.o == e.o) <;> cases grtB d t 7 <;> cases grtB d t 8 <;> cases (e.o == t.u) <;> cases t.gs.contains e.o <;> simp), S84.below⟩
  ·
   refine wp_skip (go_then (st_seq (st_reg ?_)))
   refine vf h20 5 5 fun a86 h86 => ?_
   refine vl h86 S7 2 fun a87 h87 => ?_
   refine vf h87 5 5 fun a88 h88 => ?_
   refine vl h88 S7 1 fun a89 h89 => ?_
   refine sl_bel h89 (wn rfl) (ex_call (fun _ _ => by kernel_rfl) (h89.evs rfl) rfl) rfl rfl S7 (SameAb_any d.us e.us A2 B2 c2 e2 _ ((hd.below S7.below).r2) ((he.below S7.below).r2) (by have := hd.l2; omega) (by have := he.l2; omega)) fun a90 X90 h90 S90 => ?_
   refine mv h90 fun a91 h91 => ?_
   apply sl_or h91 S90 52 rfl 4 56
   case hf =>
    intro gc52
    refine sy h91 (fx 2 2 (h91.ev rfl)) fun a92 h92 => ?_
    refine sy h92 (lx (h92.ev rfl) (S90.cell (i := 0) rfl rfl)) fun a93 h93 => ?_
    refine sl_pure h93 (wanted_yes h93 _ rfl rfl rfl gc52) (ex_call (fun _ _ => by kernel_rfl) (h93.evs rfl) rfl) rfl rfl (refHas_any t.p 4 _ hp.1 (by omega) (by decide) (by decide)) fun a94 h94 => ?_
    refine sv h94 (ex_pick_f (h94.ev rfl) gc52 (h94.ev rfl)) fun a95 h95 => ?_
    exact st_nil ⟨h95.mid (m := [(_, _), (_, _), (_, _)]) rfl, S90⟩
   case ht =>
    intro gc52
    refine no h91 fun a96 h96 => ?_
    refine no h96 fun a97 h97 => ?_
    refine no h97 fun a98 h98 => ?_
    refine sv h98 (ex_pick_t (h98.ev rfl) gc52 (h98.ev rfl)) fun a99 h99 => ?_
    exact st_nil ⟨h99.mid (m := [(_, _), (_, _), (_, _)]) rfl, S90⟩
   case h =>
    rintro a100 X100 ⟨h100, S100⟩
    refine ma h100 fun a101 h101 => ?_
    refine st_nil (go_then (wp_ret ?_))
    refine fin1 h101 rfl rfl ?_
    exact ⟨congrArg (fun x => Ending.returned (.bool x)) (by rw [hYd]; show (sameB d.us e.us || bitI t.p 2) = _; revert hc0 hc1; simp only [bne]; cases (d.o == e.o) <;> cases grtB d t 7 <;> cases grtB d t 8 <;> cases (e.o == t.u) <;> cases t.gs.contains e.o <;> simp), S100.below⟩
end Go.Proofs.YtanicpgmbhfipaaGreatDoor
namespace Go.Proofs.YtanicpgmbhfipaaGreatDoor
set_option linter.unusedVariables false
set_option linter.unusedSimpArgs false
set_option maxRecDepth 4000
open Go.RowKit Go.Sort Go.Shelf
theorem full_any (A : Option Addr) (n c : Nat) (w : World) : Calls Tryz.prog 135 #[.slice A n c] w fun e w' => e = .returned (.int .i64 (unl (decide (n ≤ 16)) 16)) ∧ Below w.heap.size w w' := by
 refine st_enter (N := 7) Tryz.func135 rfl rfl rfl (fun a0 h0 => ?_)
 have S0 := St.init w
 refine st_seq (st_reg ?_)
 refine ma h0 fun a1 h1 => ?_
 refine nsr ?_
 refine mv h1 fun a2 h2 => ?_
 refine sv h2 (ex_len Tryz.underlying22 (h2.ev rfl)) fun a3 h3 => ?_
 refine sv h3 (ex_leq (h3.ev rfl) (h3.ev rfl)) fun a4 h4 => ?_
 refine sl_pure h4 (wn rfl) (ex_call (fun _ _ => by kernel_rfl) (h4.evs rfl) rfl) rfl rfl (acl_unless_any _ _ _) fun a5 h5 => ?_
 refine ma h5 fun a6 h6 => ?_
 refine st_nil (go_then (wp_ret ?_))
 refine fin1 h6 rfl rfl ?_
 exact ⟨by rw [show decide (n ≤ 16) = decide ((n : Int) ≤ 16) by rw [decide_eq_decide]; omega], S0.below⟩
theorem inherit_any (dir : Bool) (o g : Int) (a : AceP) (w : World) :
 Calls Tryz.prog 145 #[heirV dir o g, aceU a] w fun e w' => ∃ i : Option Addr × Nat, e = .returned (.slice i.1 (inhG dir o g a).length i.2) ∧ St [] w w' [.row (.slice i.1 (inhG dir o g a).length i.2) (inhG dir o g a).length 111 4 (acesV (inhG dir o g a))] := by
 obtain ⟨F, hF⟩ : ∃ F, F = (hflG dir a.f).1 := ⟨_, rfl⟩
 obtain ⟨T, hT⟩ : ∃ T, T = (hflG dir a.f).2 := ⟨_, rfl⟩
 obtain ⟨hw, hhw⟩ : ∃ x, x = (if a.w = 3 then g else o) := ⟨_, rfl⟩
 obtain ⟨R, hR⟩ : ∃ R, R = inhG dir o g a := ⟨_, rfl⟩
 have hRd := hR
 unfold inhG at hRd
 rw [← hF, ← hT, ← hhw] at hRd
 rw [← hR]
 refine st_enter (N := 52) Tryz.func145 rfl rfl rfl (fun a0 h0 => ?_)
 have S0 := St.init w
 refine st_seq (st_reg ?_)
 refine nb h0 rfl rfl S0 fun b2 a1 X1 gb2 h1 S1 => ?_
 refine nb h1 rfl rfl S1 fun b3 a2 X2 gb3 h2 S2 => ?_
 refine ma h2 fun a3 h3 => ?_
 refine nsr ?_
 refine sv (v := heirV dir o g) h3 (ex_loads (by kernel_rfl) (by kernel_rfl) (h3.ev rfl) (S2.cellsAll (i := 1) rfl)) fun a4 h4 => ?_
 refine vf h4 1 1 fun a5 h5 => ?_
 refine vl h5 S2 0 fun a6 h6 => ?_
 refine sl_bel h6 (wn rfl) (ex_call (fun _ _ => by kernel_rfl) (h6.evs rfl) rfl) rfl rfl S2 (flags_any dir o g a.f _) fun a7 X7 h7 S7 => ?_
 refine mv h7 fun a8 h8 => ?_
 refine vx h8 fun a9 h9 => ?_
 refine vx h9 fun a10 h10 => ?_
 refine maa h10 fun a12 h12 => ?_
 rw [← hF, ← hT] at h12
 refine st_nil (go_then (st_seq (st_seq (st_reg ?_))))
 refine mv h12 fun a13 h13 => ?_
 refine sv h13 (ex_not (h13.ev rfl)) fun a14 h14 => ?_
 refine st_nil (go_then ?_)
 refine st_if (h14.ev rfl) (fun hc0 => ?_) (fun hc0 => ?_)
 ·
  have h5 : T = false := by simpa using hc0
  have e1 : R = [] := by rw [hRd, if_pos h5]
  refine st_seq (st_reg ?_)
  refine ma h14 fun a15 h15 => ?_
  refine st_nil (go_then (wp_ret (ret_then ?_)))
  refine fin1 h15 rfl rfl ?_
  rw [e1]
  exact ⟨(none, 0), rfl, (S7.sub (List.nil_sublist _)).nilRow 111 4⟩
 ·
  have h5 : ¬ T = false := by simpa using hc0
  rw [if_neg h5] at hRd
  refine wp_skip (go_then (st_seq (st_reg ?_)))
  refine mv h14 fun a16 h16 => ?_
  refine vf h16 1 1 fun a17 h17 => ?_
  refine sl_store h17 (wn rfl) ⟨rfl, rfl⟩ (h17.ev rfl) (h17.ev rfl) rfl (by kernel_rfl) S7 (i := 0) rfl rfl rfl fun X18 S18 => ?_
  refine st_nil (go_then (st_seq (st_seq (st_reg ?_))))
  refine vf h17 3 3 fun a19 h19 => ?_
  refine vl h19 S18 0 fun a20 h20 => ?_
  refine sl_pure h20 (wn rfl) (ex_call (fun _ _ => by kernel_rfl) (h20.evs rfl) rfl) rfl rfl (isCreator_any _ _) fun a21 h21 => ?_
  refine sv h21 (ex_not (h21.ev rfl)) fun a22 h22 => ?_
  refine mv h22 fun a23 h23 => ?_
  apply sl_or h23 S18 23 rfl 4 27
  case hf =>
   intro gc23
   refine sy h23 (ex_move (h23.ev rfl)) fun a24 h24 => ?_
   refine sy h24 (ex_bits (r := bits .and .i64 F 8) rfl (h24.ev rfl) (h24.ev rfl) rfl) fun a25 h25 => ?_
   refine sy h25 (ex_neq (h25.ev rfl) (h25.ev rfl)) fun a26 h26 => ?_
   refine sv h26 (ex_pick_f (h26.ev rfl) gc23 (h26.ev rfl)) fun a27 h27 => ?_
   exact st_nil ⟨h27.mid (m := [(_, _), (_, _), (_, _)]) rfl, S18⟩
  case ht =>
   intro gc23
   refine no h23 fun a28 h28 => ?_
   refine no h28 fun a29 h29 => ?_
   refine no h29 fun a30 h30 => ?_
   refine sv h30 (ex_pick_t (h30.ev rfl) gc23 (h30.ev rfl)) fun a31 h31 => ?_
   exact st_nil ⟨h31.mid (m := [(_, _), (_, _), (_, _)]) rfl, S18⟩
  case h =>
   rintro a32 X32 ⟨h32, S32⟩
   refine st_nil (go_then ?_)
   refine st_if (h32.ev rfl) (fun hc1 => ?_) (fun hc1 => ?_)
   ·
    have e1 : R = [⟨a.k, F, a.m, a.w⟩] := by rw [hRd, if_pos hc1]
    refine st_seq (st_reg ?_)
    refine sv (v := aceU ⟨a.k, F, a.m, a.w⟩) h32 (ex_loads (by kernel_rfl) (by kernel_rfl) (h32.ev rfl) (S32.cellsAll (i := 0) rfl)) fun a33 h33 => ?_
    refine sl_bslice (zc := [.int .i64 0, .int .i64 0, .int .i64 0, .int .i64 0]) (sz := 4) h33 (wn rfl) ⟨rfl, rfl⟩ rfl Tryz.underlying22 (by kernel_rfl) (by kernel_rfl) rfl rfl rfl (h33.evs2 rfl) rfl rfl rfl S32 fun b29 a34 X34 gb29 h34 S34 => ?_
    refine ma h34 fun a35 h35 => ?_
    refine st_nil (go_then (wp_ret (ret_then ?_)))
    refine fin1 h35 rfl rfl ?_
    rw [e1]
    have S9 := S34.toRow (i := 0) (n := 1) (sz := 4) rfl rfl (by decide)
    exact ⟨(some ⟨b29, 0, none⟩, 1), rfl, S9.sub (.cons_cons _ (List.nil_sublist _))⟩
   ·
    have h6 : ¬ (!(a.w == 2 || a.w == 3) || bits .and .i64 F 8 != 0) = true := by rw [hc1]; decide
    rw [if_neg h6] at hRd
    refine wp_skip (go_then (st_seq (st_reg ?_)))
    refine sv (v := aceU ⟨a.k, F, a.m, a.w⟩) h32 (ex_loads (by kernel_rfl) (by kernel_rfl) (h32.ev rfl) (S32.cellsAll (i := 0) rfl)) fun a36 h36 => ?_
    refine na (.agg #[.int .i64 0, .int .i64 0, .int .i64 0, .int .i64 0]) h36 rfl S32 fun b7 a37 X37 gb7 h37 S37 => ?_
    refine sw h37 S37 0 fun X38 S38 => ?_
    refine st_nil (go_then (st_seq ?_))
    apply dr_flowA (m := 3) h37 (St.domAt S38 (i := 0) rfl) 0 [false, false, false, true] _ (by kernel_rfl)
    case h =>
     refine qv h37 (fun X hX => fx 1 1 (h37.ev rfl)) fun a39 h39 => ?_
     refine qv h39 (fun X hX => lx (h39.ev rfl) ((S38.growO (i := 0) rfl hX).cell (i := 2) rfl rfl)) fun a40 h40 => ?_
     refine qv h40 (fun X hX => fx 1 1 (h40.ev rfl)) fun a41 h41 => ?_
     refine sq_nil ?_
     apply na_store (k := 3) (deps := []) (R := IsBox _ _ _) h41 rfl rfl IsBox.stable (fun X hX hΦ => lv_store rfl (h41.ev rfl) (h41.ev rfl) rfl (by kernel_rfl) ((S38.grow hX).at_ (i := 0) rfl) rfl rfl)
     intro vs3
     refine na_end fun X42 hX42 hΦ42 => ?_
     have S42 := S38.growBox (i := 0) (v := vs3) rfl hX42 (told_all hΦ42 (k := 3) rfl)
     refine vf h41 3 3 fun a43 h43 => ?_
     refine sl_store h43 (wn rfl) ⟨rfl, rfl⟩ (h43.ev rfl) (h43.ev rfl) rfl (by kernel_rfl) S42 (i := 0) rfl rfl rfl fun X44 S44 => ?_
     refine st_nil (go_then (st_seq (st_seq (st_reg ?_))))
     refine vf h43 3 3 fun a45 h45 => ?_
     refine vl h45 S44 1 fun a46 h46 => ?_
     refine sv h46 (ex_eql (h46.ev rfl) (h46.ev rfl)) fun a47 h47 => ?_
     refine st_nil (go_then ?_)
     refine st_if (h47.ev rfl) (fun hc2 => ?_) (fun hc2 => ?_)
     ·
      have h7 : a.w = 3 := by simpa using hc2
      have e7 : g = hw := by rw [hhw, if_pos h7]
      refine st_reg ?_
      refine vf h47 2 2 fun a48 h48 => ?_
      refine vl h48 S44 2 fun a49 h49 => ?_
      refine vf h49 3 3 fun a50 h50 => ?_
      refine sl_store h50 (wn rfl) ⟨rfl, rfl⟩ (h50.ev rfl) (h50.ev rfl) rfl (by kernel_rfl) S44 (i := 0) rfl rfl rfl fun X51 S51 => ?_
      rw [e7] at S51
      refine st_nil (go_then (st_seq (st_seq (st_reg ?_))))
      refine mv h50 fun a52 h52 => ?_
      refine sv h52 (ex_eql (h52.ev rfl) (h52.ev rfl)) fun a53 h53 => ?_
      refine st_nil (go_then ?_)
      refine st_if (h53.ev rfl) (fun hc3 => ?_) (fun hc3 => ?_)
      ·
       have h8 : F = 16 := by simpa using hc3
       have e1 : R = [⟨a.k, 16, a.m, hw⟩] := by rw [hRd, if_pos h8]
       refine st_seq (st_reg ?_)
       refine sv (v := aceU ⟨a.k, 16, a.m, hw⟩) h53 (ex_loads (by kernel_rfl) (by kernel_rfl) (h53.ev rfl) (S51.cellsAll (i := 0) rfl)) fun a54 h54 => ?_
       refine sl_bslice (zc := [.int .i64 0, .int .i64 0, .int .i64 0, .int .i64 0]) (sz := 4) h54 (wn rfl) ⟨rfl, rfl⟩ rfl Tryz.underlying22 (by kernel_rfl) (by kernel_rfl) rfl rfl rfl (h54.evs2 rfl) rfl rfl rfl S51 fun b44 a55 X55 gb44 h55 S55 => ?_
       refine ma h55 fun a56 h56 => ?_
       refine st_nil (go_then (wp_ret (ret_then ?_)))
       refine fin1 h56 rfl rfl ?_
       rw [e1]
       have S9 := S55.toRow (i := 0) (n := 1) (sz := 4) rfl rfl (by decide)
       exact ⟨(some ⟨b44, 0, none⟩, 1), rfl, S9.sub (.cons_cons _ (List.nil_sublist _))⟩
      ·
       have h8 : ¬ F = 16 := by simpa using hc3
       have e1 : R = [⟨a.k, 16, a.m, hw⟩, ⟨a.k, bits .or .i64 F 8, a.m, a.w⟩] := by rw [hRd, if_neg h8]
       refine wp_skip (go_then (st_seq (st_reg ?_)))
       refine vf h53 1 1 fun a57 h57 => ?_
       refine vl h57 S51 1 fun a58 h58 => ?_
       refine sv h58 (ex_bits (r := bits .or .i64 F 8) rfl (h58.ev rfl) (h58.ev rfl) rfl) fun a59 h59 => ?_
       refine vf h59 1 1 fun a60 h60 => ?_
       refine sl_store h60 (wn rfl) ⟨rfl, rfl⟩ (h60.ev rfl) (h60.ev rfl) rfl (by kernel_rfl) S51 (i := 1) rfl rfl rfl fun X61 S61 => ?_
       refine nsr ?_
       refine sv (v := aceU ⟨a.k, 16, a.m, hw⟩) h60 (ex_loads (by kernel_rfl) (by kernel_rfl) (h60.ev rfl) (S61.cellsAll (i := 0) rfl)) fun a62 h62 => ?_
       refine sv (v := aceU ⟨a.k, bits .or .i64 F 8, a.m, a.w⟩) h62 (ex_loads (by kernel_rfl) (by kernel_rfl) (h62.ev rfl) (S61.cellsAll (i := 1) rfl)) fun a63 h63 => ?_
       refine sl_bslice (zc := [.int .i64 0, .int .i64 0, .int .i64 0, .int .i64 0]) (sz := 4) h63 (wn rfl) ⟨rfl, rfl⟩ rfl Tryz.underlying22 (by kernel_rfl) (by kernel_rfl) rfl rfl rfl (h63.evs2 rfl) rfl rfl rfl S61 fun b51 a64 X64 gb51 h64 S64 => ?_
       refine ma h64 fun a65 h65 => ?_
       refine st_nil (go_then (wp_ret ?_))
       refine fin1 h65 rfl rfl ?_
       rw [e1]
       have S9 := S64.toRow (i := 0) (n := 2) (sz := 4) rfl rfl (by decide)
       exact ⟨(some ⟨b51, 0, none⟩, 2), rfl, S9.sub (.cons_cons _ (List.nil_sublist _))⟩
     ·
      have h7 : ¬ a.w = 3 := by simpa using hc2
      have e7 : o = hw := by rw [hhw, if_neg h7]
      rw [e7] at S44
      refine wp_skip (go_then (st_seq (st_seq (st_reg ?_))))
      refine mv h47 fun a66 h66 => ?_
      refine sv h66 (ex_eql (h66.ev rfl) (h66.ev rfl)) fun a67 h67 => ?_
      refine st_nil (go_then ?_)
      refine st_if (h67.ev rfl) (fun hc3 => ?_) (fun hc3 => ?_)
      ·
       have h8 : F = 16 := by simpa using hc3
       have e1 : R = [⟨a.k, 16, a.m, hw⟩] := by rw [hRd, if_pos h8]
       refine st_seq (st_reg ?_)
       refine sv (v := aceU ⟨a.k, 16, a.m, hw⟩) h67 (ex_loads (by kernel_rfl) (by kernel_rfl) (h67.ev rfl) (S44.cellsAll (i := 0) rfl)) fun a68 h68 => ?_
       refine sl_bslice (zc := [.int .i64 0, .int .i64 0, .int .i64 0, .int .i64 0]) (sz := 4) h68 (wn rfl) ⟨rfl, rfl⟩ rfl Tryz.underlying22 (by kernel_rfl) (by kernel_rfl) rfl rfl rfl (h68.evs2 rfl) rfl rfl rfl S44 fun b44 a69 X69 gb44 h69 S69 => ?_
       refine ma h69 fun a70 h70 => ?_
       refine st_nil (go_then (wp_ret (ret_then ?_)))
       refine fin1 h70 rfl rfl ?_
       rw [e1]
       have S9 := S69.toRow (i := 0) (n := 1) (sz := 4) rfl rfl (by decide)
       exact ⟨(some ⟨b44, 0, none⟩, 1), rfl, S9.sub (.cons_cons _ (List.nil_sublist _))⟩
      ·
       have h8 : ¬ F = 16 := by simpa using hc3
       have e1 : R = [⟨a.k, 16, a.m, hw⟩, ⟨a.k, bits .or .i64 F 8, a.m, a.w⟩] := by rw [hRd, if_neg h8]
       refine wp_skip (go_then (st_seq (st_reg ?_)))
       refine vf h67 1 1 fun a71 h71 => ?_
       refine vl h71 S44 1 fun a72 h72 => ?_
       refine sv h72 (ex_bits (r := bits .or .i64 F 8) rfl (h72.ev rfl) (h72.ev rfl) rfl) fun a73 h73 => ?_
       refine vf h73 1 1 fun a74 h74 => ?_
       refine sl_store h74 (wn rfl) ⟨rfl, rfl⟩ (h74.ev rfl) (h74.ev rfl) rfl (by kernel_rfl) S44 (i := 1) rfl rfl rfl fun X75 S75 => ?_
       refine nsr ?_
       refine sv (v := aceU ⟨a.k, 16, a.m, hw⟩) h74 (ex_loads (by kernel_rfl) (by kernel_rfl) (h74.ev rfl) (S75.cellsAll (i := 0) rfl)) fun a76 h76 => ?_
       refine sv (v := aceU ⟨a.k, bits .or .i64 F 8, a.m, a.w⟩) h76 (ex_loads (by kernel_rfl) (by kernel_rfl) (h76.ev rfl) (S75.cellsAll (i := 1) rfl)) fun a77 h77 => ?_
       refine sl_bslice (zc := [.int .i64 0, .int .i64 0, .int .i64 0, .int .i64 0]) (sz := 4) h77 (wn rfl) ⟨rfl, rfl⟩ rfl Tryz.underlying22 (by kernel_rfl) (by kernel_rfl) rfl rfl rfl (h77.evs2 rfl) rfl rfl rfl S75 fun b51 a78 X78 gb51 h78 S78 => ?_
       refine ma h78 fun a79 h79 => ?_
       refine st_nil (go_then (wp_ret ?_))
       refine fin1 h79 rfl rfl ?_
       rw [e1]
       have S9 := S78.toRow (i := 0) (n := 2) (sz := 4) rfl rfl (by decide)
       exact ⟨(some ⟨b51, 0, none⟩, 2), rfl, S9.sub (.cons_cons _ (List.nil_sublist _))⟩
    case hB => kernel_rfl
    case hst => rfl
end Go.Proofs.YtanicpgmbhfipaaGreatDoor
namespace Go.Proofs.YtanicpgmbhfipaaGreatDoor
set_option linter.unusedVariables false
set_option linter.unusedSimpArgs false
set_option maxRecDepth 4000
open Go.RowKit Go.Sort Go.Shelf
def ihG (dir : Bool) (o g : Int) (l : List AceP) : List AceP := l.flatMap (inhG dir o g)
theorem inhG_len (dir : Bool) (o g : Int) (a : AceP) : (inhG dir o g a).length ≤ 2 := by
 unfold inhG
 repeat' split
 all_goals simp
theorem ihG_len (dir : Bool) (o g : Int) (l : List AceP) : (ihG dir o g l).length ≤ 2 * l.length := by
 unfold ihG
 induction l with
 | nil => simp
 | cons a l ih =>
  rw [List.flatMap_cons, List.length_append, List.length_cons]
  have := inhG_len dir o g a
  omega
theorem ihG_take {dir : Bool} {o g : Int} {l : List AceP} {k : Nat} (h : k < l.length) : ihG dir o g (l.take (k + 1)) = ihG dir o g (l.take k) ++ inhG dir o g l[k] := by
 unfold ihG
 rw [List.take_succ_eq_append_getElem h, List.flatMap_append]
 simp
theorem ihG_eq {dir : Bool} {o g : Int} {l : List AceP} (hf : okF l) (ho : hldB o = true) (hg : hldB g = true) : ihG dir o g l = inhL dir o g l := by
 unfold ihG inhL
 induction l with
 | nil => rfl
 | cons a l ih =>
  have h1 := hf a (List.mem_cons_self ..)
  rw [List.flatMap_cons, List.flatMap_cons, inh_eq dir a h1.1 h1.2 ho hg, ih (fun x hx => hf x (List.mem_cons_of_mem _ hx))]
theorem inherited_any (dir : Bool) (o g : Int) (l : List AceP) (A : Option Addr) (c : Nat) (w : World) (hlen : l.length ≤ 1000) (hr : Rd w w.heap.size A (acesV l)) :
 Calls Tryz.prog 134 #[heirV dir o g, .slice A l.length c] w fun e w' => ∃ i : Option Addr × Nat, e = .returned (.slice i.1 (ihG dir o g l).length i.2) ∧ St [] w w' [.row (.slice i.1 (ihG dir o g l).length i.2) (ihG dir o g l).length 111 4 (acesV (ihG dir o g l))] := by
 have hml : ∀ k, (ihG dir o g (l.take k)).length ≤ 10000 := fun k => by have := ihG_len dir o g (l.take k); rw [List.length_take] at this; omega
 refine st_enter (N := 21) Tryz.func134 rfl rfl rfl (fun a0 h0 => ?_)
 have S0 := St.init w
 refine st_seq (st_reg ?_)
 refine nb h0 rfl rfl S0 fun b2 a1 X1 gb2 h1 S1 => ?_
 refine ma h1 fun a2 h2 => ?_
 refine nsr ?_
 refine ma h2 fun a3 h3 => ?_
 refine st_nil (go_then (st_seq (st_seq (st_reg ?_))))
 refine mv h3 fun a4 h4 => ?_
 refine sv h4 (ex_len Tryz.underlying22 (h4.ev rfl)) fun a5 h5 => ?_
 refine mv h5 fun a6 h6 => ?_
 replace S1 := St.nilRow S1 111 4
 refine st_nil (go_then (wp_block ?_))
 refine st_loop h6 S1 [9, 8, 4, 2] (fun (q : Nat × Option Addr × Nat) => [(10, .int .i64 q.1), (5, .slice q.2.1 (ihG dir o g (l.take q.1)).length q.2.2)]) (fun (q : Nat × Option Addr × Nat) => q.1 ≤ l.length) (fun q L => [.row (.slice q.2.1 (ihG dir o g (l.take q.1)).length q.2.2) (ihG dir o g (l.take q.1)).length 111 4 (acesV (ihG dir o g (l.take q.1))), .box b2 (heirV dir o g).cells 149]) (fun (q : Nat × Option Addr × Nat) => l.length - q.1) ((0, none, 0)) (Nat.zero_le _) ⟨rfl, rfl, rfl, rfl, rfl, rfl, trivial⟩ (S1) ?_
 intro q a7 X7 hF0 h7 S7
 obtain ⟨k, A6, c6⟩ := q
 dsimp only at h7 S7 hF0
 have hk1 := hml k
 refine st_seq (st_reg ?_)
 refine sv h7 (ex_lss (h7.ev rfl) (h7.ev rfl)) fun a8 h8 => ?_
 refine st_nil (go_then (st_seq ?_))
 refine st_if (h8.ev rfl) (fun hc0 => ?_) (fun hc0 => ?_)
 ·
  have hlt : k < l.length := by have := of_decide_eq_true hc0; omega
  obtain ⟨b, o9, rfl, hB, _⟩ := hr.opened (by rw [acesF_len]; omega)
  have hta := ihG_take (dir := dir) (o := o) (g := g) hlt
  have hi2 := inhG_len dir o g l[k]
  refine wp_skip (go_then (st_seq (wp_block (st_seq (st_reg ?_)))))
  refine sv h8 (ex_index (i := k) (sz := 4) Tryz.underlying22 (by kernel_rfl) (h8.ev rfl) (h8.ev rfl) (by omega) (by omega) rfl) fun a9 h9 => ?_
  refine sv (v := aceU l[k]) h9 (ex_loads (by kernel_rfl) (by kernel_rfl) (h9.ev rfl) (acesAt (S7.rd0 hr) hlt)) fun a10 h10 => ?_
  refine na (.agg #[.int .i64 0, .int .i64 0, .int .i64 0, .int .i64 0]) h10 rfl S7 fun b7 a11 X11 gb7 h11 S11 => ?_
  refine sw h11 S11 0 fun X12 S12 => ?_
  refine st_nil (go_then (st_reg ?_))
  refine mv h11 fun a13 h13 => ?_
  refine sv (v := heirV dir o g) h13 (ex_loads (by kernel_rfl) (by kernel_rfl) (h13.ev rfl) (S12.cellsAll (i := 2) rfl)) fun a14 h14 => ?_
  refine sv (v := aceU l[k]) h14 (ex_loads (by kernel_rfl) (by kernel_rfl) (h14.ev rfl) (S12.cellsAll (i := 0) rfl)) fun a15 h15 => ?_
  refine sl_more h15 (wn rfl) (ex_call (fun _ _ => by kernel_rfl) (h15.evs rfl) rfl) rfl rfl S12 (inherit_any dir o g l[k] _) fun p17 a16 X16 h16 S16 => ?_
  refine sl_append (z := .agg #[.int .i64 0, .int .i64 0, .int .i64 0, .int .i64 0]) (sz := 4) (bytes := 32) h16 (wn rfl) ⟨rfl, rfl⟩ rfl Tryz.underlying22 (by kernel_rfl) rfl rfl (h16.ev rfl) (h16.ev rfl) S16 (i := 2) rfl (S16.rdOf (i := 0) rfl) (acesF_len _) (aceV_one _) ⟨(by omega), by decide⟩ fun A18 c18 a17 X17 h17 S17 => ?_
  refine ma h17 fun a18 h18 => ?_
  replace h18 := Has.also h18 (t := 5) (v := .slice A18 (ihG dir o g (l.take (k + 1))).length c18) ((show look _ 5 = some (.slice A18 ((ihG dir o g (l.take k)).length + (inhG dir o g l[k]).length) c18) from rfl).trans (by rw [hta, List.length_append]))
  refine st_nil (go_block (go_then (st_reg ?_)))
  refine sv h18 (ex_add (h18.ev rfl) (h18.ev rfl) (by omega)) fun a19 h19 => ?_
  refine mv h19 fun a20 h20 => ?_
  refine st_nil (go_then ?_)
  exact ⟨(k + 1, A18, c18), (by show l.length - (k + 1) < l.length - k; omega), hlt, h20.re ⟨rfl, rfl, rfl, rfl, rfl, rfl, trivial⟩, (by show St [] w _ [.row (.slice A18 (ihG dir o g (l.take (k + 1))).length c18) (ihG dir o g (l.take (k + 1))).length 111 4 (acesV (ihG dir o g (l.take (k + 1)))), _]; rw [hta, List.length_append, acesV_append]; exact (S17.sub (.cons _ (.cons _ (.cons_cons _ (.cons_cons _ .slnil))))))⟩
 ·
  have hge : k = l.length := by have := of_decide_eq_false hc0; have := hF0; omega
  refine wp_exit ?_
  refine go_exit_then ?_
  refine go_exit_then ?_
  refine go_exit ?_
  refine go_then (st_seq (st_reg ?_))
  refine mva h8 fun a22 h22 => ?_
  refine st_nil (go_then (wp_ret ?_))
  refine fin1 h22 rfl rfl ?_
  have et : ihG dir o g (l.take k) = ihG dir o g l := by rw [hge, List.take_length]
  have h9 : St [] w X7 [.row (.slice A6 (ihG dir o g (l.take k)).length c6) (ihG dir o g (l.take k)).length 111 4 (acesV (ihG dir o g (l.take k)))] := (S7.sub (.cons_cons _ (.cons _ .slnil)))
  rw [et] at h9
  exact ⟨(A6, c6), by rw [et], h9⟩
end Go.Proofs.YtanicpgmbhfipaaGreatDoor
namespace Go.Proofs.YtanicpgmbhfipaaGreatDoor
set_option linter.unusedVariables false
set_option linter.unusedSimpArgs false
set_option maxRecDepth 4000
open Go.RowKit Go.Sort Go.Shelf
theorem ixf0_any (A : Option Addr) (c : Nat) (f : Value) (w : World) : Calls Tryz.prog 115 #[.slice A 0 c, f] w fun e w' => e = .returned (.int .i64 (-1)) ∧ Below w.heap.size w w' := by
 refine st_enter (N := 19) Tryz.func115 rfl rfl rfl (fun a0 h0 => ?_)
 have S0 := St.init w
 refine st_seq (st_reg ?_)
 refine ma h0 fun a1 h1 => ?_
 refine st_nil (go_then (st_seq (st_seq (st_reg ?_))))
 refine mv h1 fun a2 h2 => ?_
 refine sv h2 (ex_len Tryz.underlying22 (h2.ev rfl)) fun a3 h3 => ?_
 refine mv h3 fun a4 h4 => ?_
 refine st_nil (go_then (wp_block ?_))
 refine st_loop h4 S0 [7, 0, 1] (fun (i : Nat) => [(8, .int .i64 (0 : Nat))]) (fun (i : Nat) => i = 0) (fun (i : Nat) L => L) (fun (i : Nat) => i) (0) (rfl) ⟨rfl, rfl, rfl, rfl, trivial⟩ (S0) ?_
 intro i a5 X5 hF0 h5 S5
 refine st_seq (st_reg ?_)
 refine sv h5 (ex_lss (h5.ev rfl) (h5.ev rfl)) fun a6 h6 => ?_
 refine st_nil (go_then (st_seq ?_))
 refine st_if_f (h6.ev rfl) (rfl) ?_
 refine wp_exit ?_
 refine go_exit_then ?_
 refine go_exit_then ?_
 refine go_exit ?_
 refine go_then (st_seq (st_reg ?_))
 refine ma h6 fun a7 h7 => ?_
 refine st_nil (go_then (wp_ret ?_))
 refine fin1 h7 rfl rfl ?_
 exact ⟨rfl, S5.below⟩
theorem del0_any (A : Option Addr) (c : Nat) (f : Value) (w : World) : Calls Tryz.prog 132 #[.slice A 0 c, f] w fun e w' => e = .returned (.slice A 0 c) ∧ Below w.heap.size w w' := by
 refine st_enter (N := 42) Tryz.func132 rfl rfl rfl (fun a0 h0 => ?_)
 have S0 := St.init w
 refine st_seq (st_reg ?_)
 refine ma h0 fun a1 h1 => ?_
 refine nsr ?_
 refine mvv h1 fun a3 h3 => ?_
 refine sl_bel h3 (wn rfl) (ex_call (fun _ _ => by kernel_rfl) (h3.evs rfl) rfl) rfl rfl S0 (ixf0_any A c f _) fun a4 X4 h4 S4 => ?_
 refine ma h4 fun a5 h5 => ?_
 refine st_nil (go_then (st_seq (st_seq (st_reg ?_))))
 refine mv h5 fun a6 h6 => ?_
 refine sv h6 (ex_eql (h6.ev rfl) (h6.ev rfl)) fun a7 h7 => ?_
 refine st_nil (go_then ?_)
 refine st_if_t (h7.ev rfl) (rfl) ?_
 refine st_seq (st_reg ?_)
 refine mva h7 fun a9 h9 => ?_
 refine st_nil (go_then (wp_ret (ret_then ?_)))
 refine fin1 h9 rfl rfl ?_
 exact ⟨rfl, S4.below⟩
end Go.Proofs.YtanicpgmbhfipaaGreatDoor
namespace Go.Proofs.YtanicpgmbhfipaaGreatDoor
set_option linter.unusedVariables false
set_option linter.unusedSimpArgs false
set_option maxRecDepth 4000
open Go.RowKit Go.Sort Go.Shelf
theorem St.nil2 {M : List Nat} {w X : World} {L : List Ent} (h : St M w X L) (T : TypeId) (sz : Nat) : St M w X (row2E T sz (.slice none 0 0) 0 [] (.slice none 0 0) 0 [] :: L) :=
 h.add (Below.refl _ _) ⟨⟨by simp, .inl ⟨rfl, rfl⟩⟩, ⟨by simp, .inl ⟨rfl, rfl⟩⟩⟩ (fun b hb => by rcases hb with hb | hb <;> cases hb)
def slJ (n : Nat) (i : Option Addr × Nat) : Value := .slice i.1 n i.2
def OwR (l : List AceP) (B : Nat) (i : Option Addr × Nat) (X : World) : Prop := X.ownsRow B 111 4 (.slice i.1 l.length i.2) l.length (acesV l)
theorem OwR.grow {l : List AceP} {B : Nat} (i : Option Addr × Nat) (X X' : World) (h : OwR l B i X) (hb : Below X.heap.size X X') : OwR l B i X' := ownsRow_below h hb
theorem clone_ow (l : List AceP) (A : Option Addr) (c B : Nat) (w : World) (hB : B ≤ w.heap.size) (hr : Rd w w.heap.size A (acesV l)) (hlen : l.length ≤ 1000) :
 Calls Tryz.prog 74 #[.slice A l.length c] w fun e w' => ∃ i, e = .returned (slJ l.length i) ∧ OwR l B i w' ∧ Below w.heap.size w w' := by
 refine (cloneA_any l A c w hr hlen).mono ?_
 rintro e w' ⟨A', c', rfl, ho, hb⟩
 exact ⟨(A', c'), rfl, ownsRow_mono ho hB, hb⟩
theorem acB_first2 {X : World} {b : Nat} {e1 e2 : Int} {T : TypeId} (hb : Box X b #[.int .i64 e1, .int .i64 e2] T) : Calls Tryz.prog 51 #[.slice (some ⟨b, 0, none⟩) 2 2] X fun e w' => e = .returned (.int .i64 (firstE [e1, e2])) ∧ X = w' :=
 access_first_any b 0 [e1, e2] X (by simp) (fun k hk => by
  rw [Nat.zero_add, Box.cells hb k]
  have : k = 0 ∨ k = 1 := by simp at hk; omega
  rcases this with rfl | rfl <;> rfl)
def tkG (d : DscP) (t : TokP) : Bool := if triE d t 256 = 0 then bits .andNot .i64 256 (rgtP d t) == 0 else false
def tkE (d : DscP) (t : TokP) : Int := firstE [triE d t 256, unl (tkG d t) 27]
def tkO (d : DscP) (t : TokP) : DscP := if tkE d t = 0 then { d with o := t.u } else zD
theorem TakenBy_any (d : DscP) (t : TokP) (A1 A2 A : Option Addr) (c1 c2 c : Nat) (w : World) (hd : DT d t A1 A2 A w) :
 Calls Tryz.prog 44 #[dscV d A1 A2 c1 c2, tokV t A c] w fun e w' => ∃ i : (Option Addr × Nat) × Option Addr × Nat, e = .returned (.tuple #[dscV (tkO d t) i.1.1 i.2.1 i.1.2 i.2.2, .int .i64 (tkE d t)]) ∧
  St [] w w' [row2E 111 4 (.slice i.1.1 (tkO d t).es.length i.1.2) (tkO d t).es.length (acesV (tkO d t).es) (.slice i.2.1 (tkO d t).us.length i.2.2) (tkO d t).us.length (acesV (tkO d t).us)] := by
 have hl1 := hd.l1
 have hl2 := hd.l2
 refine st_enter (N := 37) Tryz.func44 rfl rfl rfl (fun a0 h0 => ?_)
 have S0 := St.init w
 refine st_seq (st_reg ?_)
 refine nb h0 rfl rfl S0 fun b2 a1 X1 gb2 h1 S1 => ?_
 refine nb h1 rfl rfl S1 fun b3 a2 X2 gb3 h2 S2 => ?_
 refine na (.agg #[.int .i64 0, .int .i64 0, .bool false, .bool false, .slice none 0 0, .slice none 0 0]) h2 rfl S2 fun b4 a3 X3 gb4 h3 S3 => ?_
 refine ma h3 fun a4 h4 => ?_
 refine nsr ?_
 refine sv (v := dscV d A1 A2 c1 c2) h4 (ex_loads (by kernel_rfl) (by kernel_rfl) (h4.ev rfl) (S3.cellsAll (i := 2) rfl)) fun a5 h5 => ?_
 refine sv (v := tokV t A c) h5 (ex_loads (by kernel_rfl) (by kernel_rfl) (h5.ev rfl) (S3.cellsAll (i := 1) rfl)) fun a6 h6 => ?_
 refine sl_bel h6 (wn rfl) (ex_call (fun _ _ => by kernel_rfl) (h6.evs rfl) rfl) rfl rfl S3 (AccessTo_any d t 256 A1 A2 A c1 c2 c _ (hd.below S3.below)) fun a7 X7 h7 S7 => ?_
 refine mv h7 fun a8 h8 => ?_
 refine vx h8 fun a9 h9 => ?_
 refine vx h9 fun a10 h10 => ?_
 refine vx h10 fun a11 h11 => ?_
 refine maa h11 fun a13 h13 => ?_
 refine ma h13 fun a14 h14 => ?_
 refine st_nil (go_then (st_seq (st_seq (st_reg ?_))))
 refine mvv h14 fun a16 h16 => ?_
 refine sl_pure h16 (wn rfl) (ex_call (fun _ _ => by kernel_rfl) (h16.evs rfl) rfl) rfl rfl (access_unless_any _ _ _) fun a17 h17 => ?_
 refine sl_new h17 (wn rfl) (f := fun b => .slice (some ⟨b, 0, none⟩) 2 2) (ex_bslice Tryz.underlying123 (by kernel_rfl) (by kernel_rfl) (h17.evs2 rfl) rfl rfl rfl (by decide) (by decide)) rfl rfl S7 fun b19 a18 X18 gb19 h18 S18 => ?_
 refine sl_pure h18 (wn rfl) (ex_call (fun _ _ => by kernel_rfl) (h18.evs rfl) rfl) rfl rfl (acB_first2 (S18.at_ (i := 0) rfl)) fun a19 h19 => ?_
 refine ma h19 fun a20 h20 => ?_
 refine nsr ?_
 refine mv h20 fun a21 h21 => ?_
 refine sv h21 (ex_neq (h21.ev rfl) (h21.ev rfl)) fun a22 h22 => ?_
 refine st_nil (go_then ?_)
 refine st_if (h22.ev rfl) (fun hc0 => ?_) (fun hc0 => ?_)
 ·
  have hne : tkE d t ≠ 0 := by unfold tkE tkG; simpa using hc0
  have e1 : tkO d t = zD := if_neg hne
  refine st_seq (st_reg ?_)
  refine sv h22 (ex_build (zs := [.int .i64 0, .int .i64 0, .bool false, .bool false, .slice none 0 0, .slice none 0 0]) (pl := [(0, 1), (1, 1), (2, 1), (3, 1), (4, 1), (5, 1)]) (by kernel_rfl) (by kernel_rfl) (h22.evs2 rfl) rfl rfl) fun a23 h23 => ?_
  refine mv h23 fun a24 h24 => ?_
  refine sw h24 S18 1 fun X25 S25 => ?_
  refine ma h24 fun a26 h26 => ?_
  refine st_nil (go_then (wp_ret (ret_then ?_)))
  refine finct h26 rfl rfl rfl S25 (i := 1) rfl (by kernel_rfl) (by kernel_rfl) ?_
  rw [e1]
  exact ⟨((none, 0), none, 0), rfl, (S25.sub (List.nil_sublist _)).nil2 _ _⟩
 ·
  have hz : tkE d t = 0 := by unfold tkE tkG; simpa using hc0
  have e1 : tkO d t = { d with o := t.u } := if_pos hz
  refine wp_skip (go_then (st_seq (st_reg ?_)))
  refine vf h22 0 0 fun a27 h27 => ?_
  refine vl h27 S18 2 fun a28 h28 => ?_
  refine vf h28 0 0 fun a29 h29 => ?_
  refine sl_store h29 (wn rfl) ⟨rfl, rfl⟩ (h29.ev rfl) (h29.ev rfl) rfl (by kernel_rfl) S18 (i := 3) rfl rfl rfl fun X30 S30 => ?_
  refine st_nil (go_then (st_seq ?_))
  apply dr_flowM h29 (fun _ => False) [] [] [false, false, true, false, false, true, false] _ (by kernel_rfl) all0
  case h =>
   refine qv h29 (fun X hX => fx 4 4 (h29.ev rfl)) fun a31 h31 => ?_
   refine qv h31 (fun X hX => lx (h31.ev rfl) ((S30.grow (Grw.below hX)).cell (i := 3) rfl rfl)) fun a32 h32 => ?_
   refine qv h32 (fun X hX => fx 5 5 (h32.ev rfl)) fun a33 h33 => ?_
   refine qv h33 (fun X hX => lx (h33.ev rfl) ((S30.grow (Grw.below hX)).cell (i := 3) rfl rfl)) fun a34 h34 => ?_
   refine qv h34 (fun X hX => fx 4 4 (h34.ev rfl)) fun a35 h35 => ?_
   refine sq_nil ?_
   apply nm_step (O := (fun _ => False)) (k := 2) (deps := []) (R := TelJ (slJ d.es.length) (OwR d.es X30.heap.size)) h35 rfl rfl rfl all0 (TelJ.stable OwR.grow) all0 all0
   case hx => exact fun X hX hΦ => lv_telj (ex_call (fun _ _ => by kernel_rfl) (h35.evs rfl) rfl) (clone_ow d.es A1 c1 X30.heap.size _ hX.size ((S30.grow (Grw.below hX)).rd0 hd.r1) (by omega))
   intro v30 a30 h30
   apply nm_step (O := (fun _ => False)) (k := 5) (deps := []) (R := TelJ (slJ d.us.length) (OwR d.us X30.heap.size)) h30 rfl rfl rfl all0 (TelJ.stable OwR.grow) all0 all0
   case hx => exact fun X hX hΦ => lv_telj (ex_call (fun _ _ => by kernel_rfl) (h30.evs rfl) rfl) (clone_ow d.us A2 c2 X30.heap.size _ hX.size ((S30.grow (Grw.below hX)).rd0 hd.r2) (by omega))
   intro v33 a36 h36
   refine nm_end (O := (fun _ => False)) all0 fun X36 hX9 hΦ9 => ?_
   obtain ⟨⟨B1, k1⟩, rfl, q1⟩ := told_all hΦ9 (k := 2) rfl
   obtain ⟨⟨B2, k2⟩, rfl, q2⟩ := told_all hΦ9 (k := 5) rfl
   have S36 := S30.add (Grw.below hX9) (e := row2E 111 4 (.slice B1 d.es.length k1) d.es.length (acesV d.es) (.slice B2 d.us.length k2) d.us.length (acesV d.us)) ⟨ownsRow_mono q1 (Nat.zero_le _), ownsRow_mono q2 (Nat.zero_le _)⟩ (fun k hk => hk.elim (fun hk => q1.lt k hk) (fun hk => q2.lt k hk))
   refine sl_store h36 (wn rfl) ⟨rfl, rfl⟩ (h36.ev rfl) (h36.ev rfl) rfl (by kernel_rfl) S36 (i := 4) rfl rfl rfl fun X37 S37 => ?_
   refine vf h36 5 5 fun a38 h38 => ?_
   refine sl_store h38 (wn rfl) ⟨rfl, rfl⟩ (h38.ev rfl) (h38.ev rfl) rfl (by kernel_rfl) S37 (i := 4) rfl rfl rfl fun X39 S39 => ?_
   refine nsr ?_
   refine sv h38 (ex_loads (by kernel_rfl) (by kernel_rfl) (h38.ev rfl) (S39.cellsAll (i := 4) rfl)) fun a40 h40 => ?_
   refine sw h40 S39 2 fun X41 S41 => ?_
   refine ma h40 fun a42 h42 => ?_
   refine st_nil (go_then (wp_ret ?_))
   refine finct h42 rfl rfl rfl S41 (i := 2) rfl (by kernel_rfl) (by kernel_rfl) ?_
   rw [e1, hz]
   exact ⟨((B1, k1), B2, k2), rfl, (S41.sub (.cons_cons _ (.cons _ (.cons _ (.cons _ (.cons _ .slnil))))))⟩
  case hB => kernel_rfl
end Go.Proofs.YtanicpgmbhfipaaGreatDoor
