/-
  Chapter 17: what a token creates.
  Chapter 17: who replaces a descriptor by another one.
  Chapter 17: what a token creates (the reference).
-/
import Derived.Test.YtanicpgmbhfipaaGreatDoorAcM
import Derived.Test.YtanicpgmbhfipaaGreatDoorAcJ
import Derived.Test.YtanicpgmbhfipaaGreatDoorAcK
namespace Go.Proofs.YtanicpgmbhfipaaGreatDoor
set_option linter.unusedVariables false
set_option linter.unusedSimpArgs false
set_option maxRecDepth 4000
open Go.RowKit Go.Sort Go.Shelf
theorem adscErr_any (d : DscP) (A1 A2 : Option Addr) (c1 c2 : Nat) (w : World) (q1 : d.es.length ≤ 500) (q2 : d.us.length ≤ 500) (hr1 : Rd w w.heap.size A1 (acesV d.es)) (hr2 : Rd w w.heap.size A2 (acesV d.us)) :
 Calls Tryz.prog 104 #[dscV d A1 A2 c1 c2] w fun e w' => e = .returned (.int .i64 (dscE d)) ∧ Below w.heap.size w w' := by
 refine st_enter (N := 11) Tryz.func104 rfl rfl rfl (fun a0 h0 => ?_)
 have S0 := St.init w
 refine st_seq (st_reg ?_)
 refine nb h0 rfl rfl S0 fun b1 a1 X1 gb1 h1 S1 => ?_
 refine ma h1 fun a2 h2 => ?_
 refine nsr ?_
 refine sv (v := dscV d A1 A2 c1 c2) h2 (ex_loads (by kernel_rfl) (by kernel_rfl) (h2.ev rfl) (S1.cellsAll (i := 0) rfl)) fun a3 h3 => ?_
 refine sl_bel h3 (wn rfl) (ex_call (fun _ _ => by kernel_rfl) (h3.evs rfl) rfl) rfl rfl S1 (CheckDsc_any d A1 A2 c1 c2 _ q1 q2 (S1.rd0 hr1) (S1.rd0 hr2)) fun a4 X4 h4 S4 => ?_
 refine mv h4 fun a5 h5 => ?_
 refine vx h5 fun a6 h6 => ?_
 refine vx h6 fun a7 h7 => ?_
 refine maa h7 fun a9 h9 => ?_
 refine nsr ?_
 refine mva h9 fun a11 h11 => ?_
 refine st_nil (go_then (wp_ret ?_))
 refine fin1 h11 rfl rfl ?_
 exact ⟨rfl, S4.below⟩
def grpT (t : TokP) : Int := if 0 < t.gs.length then t.gs.getD 0 0 else t.u
theorem wnD_ok {t : TokP} (h : tokE t = 0) : hldB t.u = true ∧ hldB (grpT t) = true ∧ dscE (wnD t.u (grpT t)) = 0 := by
 obtain ⟨h1, _, h3, _, _⟩ := tokE_zero h
 have h4 : hldB (grpT t) = true := by
  unfold grpT
  split
  · rename_i hp
    refine (usersE_asc h3).2 _ ?_
    rw [List.getD_eq_getElem?_getD, List.getElem?_eq_getElem hp]
    exact List.getElem_mem hp
  · exact h1
 refine ⟨h1, h4, ?_⟩
 unfold dscE dscP wnD pairE unl
 simp [h1, h4, eachE]
theorem dscE_ok {d : DscP} (h : dscE d = 0) : d.es.length ≤ 16 ∧ d.us.length ≤ 16 ∧ okF d.es ∧ okF d.us := by
 obtain ⟨_, _, h3, h4, _, h6, h7⟩ := dscE_zero h
 exact ⟨h3, h4, fun a ha => aceE_f (h6 a ha).1, fun a ha => aceE_f (h7 a ha).1⟩
theorem childOf_any (dir : Bool) (o g : Int) (d : DscP) (A1 A2 : Option Addr) (c1 c2 : Nat) (w : World) (hz : dscE d = 0) (hw : dscE (wnD o g) = 0) (ho : hldB o = true) (hg : hldB g = true) (hr1 : Rd w w.heap.size A1 (acesV d.es)) (hr2 : Rd w w.heap.size A2 (acesV d.us)) :
 Calls Tryz.prog 82 #[dscV d A1 A2 c1 c2, dscV (wnD o g) none none 0 0, .bool dir] w fun e w' => ∃ i : (Option Addr × Nat) × Option Addr × Nat, e = .returned (.tuple #[dscV (chO dir o g d) i.1.1 i.2.1 i.1.2 i.2.2, .int .i64 (chE dir o g d)]) ∧ St [] w w' [row2E 111 4 (.slice i.1.1 (chO dir o g d).es.length i.1.2) (chO dir o g d).es.length (acesV (chO dir o g d).es) (.slice i.2.1 (chO dir o g d).us.length i.2.2) (chO dir o g d).us.length (acesV (chO dir o g d).us)] := by
 obtain ⟨k1, k2, k3, k4⟩ := dscE_ok hz
 refine st_enter (N := 25) Tryz.func82 rfl rfl rfl (fun a0 h0 => ?_)
 have S0 := St.init w
 refine st_seq (st_reg ?_)
 refine nb h0 rfl rfl S0 fun b3 a1 X1 gb3 h1 S1 => ?_
 refine nb h1 rfl rfl S1 fun b4 a2 X2 gb4 h2 S2 => ?_
 refine na (.agg #[.int .i64 0, .int .i64 0, .bool false, .bool false, .slice none 0 0, .slice none 0 0]) h2 rfl S2 fun b6 a3 X3 gb6 h3 S3 => ?_
 refine ma h3 fun a4 h4 => ?_
 refine st_nil (go_then (st_seq (st_seq ?_)))
 apply dr_flow h4 [false, false, false] _ (by kernel_rfl)
 case h =>
  refine qv (v := dscV d A1 A2 c1 c2) h4 (fun X hX => ex_loads (by kernel_rfl) (by kernel_rfl) (h4.ev rfl) ((S3.grow hX).cellsAll (i := 2) rfl)) fun a5 h5 => ?_
  refine sq_bel h5 (wn rfl) rfl rfl (fun X => (ex_call (fun _ _ => by kernel_rfl) (h5.evs rfl) rfl)) (fun X hX => adscErr_any d A1 A2 c1 c2 _ (by omega) (by omega) ((S3.grow hX).rd0 hr1) ((S3.grow hX).rd0 hr2)) fun a6 h6 => ?_
  refine qv (v := dscV (wnD o g) none none 0 0) h6 (fun X hX => ex_loads (by kernel_rfl) (by kernel_rfl) (h6.ev rfl) ((S3.grow hX).cellsAll (i := 1) rfl)) fun a7 h7 => ?_
  refine sq_nil ?_
  refine nd_end fun X8 hX8 hΦ8 => ?_
  have S8 := S3.grow hX8
  refine sl_bel h7 (wn rfl) (ex_call (fun _ _ => by kernel_rfl) (h7.evs rfl) rfl) rfl rfl S8 (adscErr_any (wnD o g) none none 0 0 _ (Nat.zero_le _) (Nat.zero_le _) (Rd.nil _ _ _) (Rd.nil _ _ _)) fun a9 X9 h9 S9 => ?_
  refine sl_new h9 (wn rfl) (f := fun b => .slice (some ⟨b, 0, none⟩) 2 2) (ex_bslice Tryz.underlying123 (by kernel_rfl) (by kernel_rfl) (h9.evs2 rfl) rfl rfl rfl (by decide) (by decide)) rfl rfl S9 fun b13 a10 X10 gb13 h10 S10 => ?_
  refine sl_pure h10 (wn rfl) (ex_call (fun _ _ => by kernel_rfl) (h10.evs rfl) rfl) rfl rfl (acl_Bfirst2 (S10.at_ (i := 0) rfl)) fun a11 h11 => ?_
  refine ma h11 fun a12 h12 => ?_
  refine nsr ?_
  refine mv h12 fun a13 h13 => ?_
  refine sv h13 (ex_neq (h13.ev rfl) (h13.ev rfl)) fun a14 h14 => ?_
  refine st_nil (go_then ?_)
  refine st_if_f (h14.ev rfl) ((by rw [hz, hw]; rfl)) ?_
  refine wp_skip (go_then (st_seq (st_reg ?_)))
  refine sv (v := dscV d A1 A2 c1 c2) h14 (ex_loads (by kernel_rfl) (by kernel_rfl) (h14.ev rfl) (S10.cellsAll (i := 3) rfl)) fun a15 h15 => ?_
  refine sv (v := dscV (wnD o g) none none 0 0) h15 (ex_loads (by kernel_rfl) (by kernel_rfl) (h15.ev rfl) (S10.cellsAll (i := 2) rfl)) fun a16 h16 => ?_
  refine mv h16 fun a17 h17 => ?_
  refine sl_more h17 (wn rfl) (ex_call (fun _ _ => by kernel_rfl) (h17.evs rfl) rfl) rfl rfl S10 (child_any dir o g d A1 A2 c1 c2 _ k1 k2 k3 k4 ho hg (S10.rd0 hr1) (S10.rd0 hr2)) fun p22 a18 X18 h18 S18 => ?_
  refine sv (v := dscV (chO dir o g d) p22.1.1 p22.2.1 p22.1.2 p22.2.2) h18 (ex_extract (h18.ev rfl) rfl) fun a19 h19 => ?_
  refine vx h19 fun a20 h20 => ?_
  refine sw h20 S18 2 fun X21 S21 => ?_
  refine ma h20 fun a22 h22 => ?_
  refine st_nil (go_then (wp_ret ?_))
  refine finct h22 rfl rfl rfl S21 (i := 2) rfl (by kernel_rfl) (by kernel_rfl) ?_
  exact ⟨p22, rfl, (S21.sub (.cons_cons _ (.cons _ (.cons _ (.cons _ (.cons _ .slnil))))))⟩
 case hB => kernel_rfl
 case hst => rfl
def crtE (d : DscP) (t : TokP) (dir : Bool) : Int := if firstE [dscE d, tokE t] = 0 then chE dir t.u (grpT t) d else firstE [dscE d, tokE t]
def crtO (d : DscP) (t : TokP) (dir : Bool) : DscP := if firstE [dscE d, tokE t] = 0 then chO dir t.u (grpT t) d else zD
theorem CreatedBy_any (d : DscP) (t : TokP) (dir : Bool) (A1 A2 A : Option Addr) (c1 c2 c : Nat) (w : World) (hd : DT d t A1 A2 A w) :
 Calls Tryz.prog 46 #[dscV d A1 A2 c1 c2, tokV t A c, .bool dir] w fun e w' => ∃ i : (Option Addr × Nat) × Option Addr × Nat, e = .returned (.tuple #[dscV (crtO d t dir) i.1.1 i.2.1 i.1.2 i.2.2, .int .i64 (crtE d t dir)]) ∧ St [] w w' [row2E 111 4 (.slice i.1.1 (crtO d t dir).es.length i.1.2) (crtO d t dir).es.length (acesV (crtO d t dir).es) (.slice i.2.1 (crtO d t dir).us.length i.2.2) (crtO d t dir).us.length (acesV (crtO d t dir).us)] := by
 have hl1 := hd.l1
 have hl2 := hd.l2
 have hl3 := hd.l3
 refine st_enter (N := 40) Tryz.func46 rfl rfl rfl (fun a0 h0 => ?_)
 have S0 := St.init w
 refine st_seq (st_reg ?_)
 refine nb h0 rfl rfl S0 fun b3 a1 X1 gb3 h1 S1 => ?_
 refine nb h1 rfl rfl S1 fun b4 a2 X2 gb4 h2 S2 => ?_
 refine na (.agg #[.int .i64 0, .int .i64 0, .bool false, .bool false, .slice none 0 0, .slice none 0 0]) h2 rfl S2 fun b6 a3 X3 gb6 h3 S3 => ?_
 refine ma h3 fun a4 h4 => ?_
 refine st_nil (go_then (st_seq (st_seq ?_)))
 apply dr_flow h4 [false, false, false] _ (by kernel_rfl)
 case h =>
  refine qv (v := dscV d A1 A2 c1 c2) h4 (fun X hX => ex_loads (by kernel_rfl) (by kernel_rfl) (h4.ev rfl) ((S3.grow hX).cellsAll (i := 2) rfl)) fun a5 h5 => ?_
  refine sq_bel h5 (wn rfl) rfl rfl (fun X => (ex_call (fun _ _ => by kernel_rfl) (h5.evs rfl) rfl)) (fun X hX => access_descriptorErr_any d A1 A2 c1 c2 _ (by omega) (by omega) ((hd.below (S3.grow hX).below).r1) ((hd.below (S3.grow hX).below).r2)) fun a6 h6 => ?_
  refine qv (v := tokV t A c) h6 (fun X hX => ex_loads (by kernel_rfl) (by kernel_rfl) (h6.ev rfl) ((S3.grow hX).cellsAll (i := 1) rfl)) fun a7 h7 => ?_
  refine sq_nil ?_
  refine nd_end fun X8 hX8 hΦ8 => ?_
  have S8 := S3.grow hX8
  refine sl_bel h7 (wn rfl) (ex_call (fun _ _ => by kernel_rfl) (h7.evs rfl) rfl) rfl rfl S8 (CheckToken_any t A c _ (by omega) ((hd.below S8.below).r3)) fun a9 X9 h9 S9 => ?_
  refine sl_new h9 (wn rfl) (f := fun b => .slice (some ⟨b, 0, none⟩) 2 2) (ex_bslice Tryz.underlying123 (by kernel_rfl) (by kernel_rfl) (h9.evs2 rfl) rfl rfl rfl (by decide) (by decide)) rfl rfl S9 fun b14 a10 X10 gb14 h10 S10 => ?_
  refine sl_pure h10 (wn rfl) (ex_call (fun _ _ => by kernel_rfl) (h10.evs rfl) rfl) rfl rfl (acB_first2 (S10.at_ (i := 0) rfl)) fun a11 h11 => ?_
  refine ma h11 fun a12 h12 => ?_
  refine nsr ?_
  refine mv h12 fun a13 h13 => ?_
  refine sv h13 (ex_neq (h13.ev rfl) (h13.ev rfl)) fun a14 h14 => ?_
  refine st_nil (go_then ?_)
  refine st_if (h14.ev rfl) (fun hc0 => ?_) (fun hc0 => ?_)
  ·
   have hne : firstE [dscE d, tokE t] ≠ 0 := by simpa using hc0
   have e1 : crtO d t dir = zD := if_neg hne
   have e2 : crtE d t dir = firstE [dscE d, tokE t] := if_neg hne
   refine st_seq (st_reg ?_)
   refine sv h14 (ex_build (zs := [.int .i64 0, .int .i64 0, .bool false, .bool false, .slice none 0 0, .slice none 0 0]) (pl := [(0, 1), (1, 1), (2, 1), (3, 1), (4, 1), (5, 1)]) (by kernel_rfl) (by kernel_rfl) (h14.evs2 rfl) rfl rfl) fun a15 h15 => ?_
   refine mv h15 fun a16 h16 => ?_
   refine sw h16 S10 1 fun X17 S17 => ?_
   refine ma h16 fun a18 h18 => ?_
   refine st_nil (go_then (wp_ret (ret_then ?_)))
   refine finct h18 rfl rfl rfl S17 (i := 1) rfl (by kernel_rfl) (by kernel_rfl) ?_
   rw [e1, e2]
   exact ⟨((none, 0), none, 0), rfl, (S17.sub (List.nil_sublist _)).nil2 _ _⟩
  ·
   have hz : firstE [dscE d, tokE t] = 0 := by simpa using hc0
   have e1 : crtO d t dir = chO dir t.u (grpT t) d := if_pos hz
   have e2 : crtE d t dir = chE dir t.u (grpT t) d := if_pos hz
   have hz1 : dscE d = 0 := firstE_zero hz _ (List.mem_cons_self ..)
   have hz2 : tokE t = 0 := firstE_zero hz _ (List.mem_cons_of_mem _ (List.mem_cons_self ..))
   obtain ⟨ho, hg, hw⟩ := wnD_ok hz2
   refine wp_skip (go_then (st_seq (st_reg ?_)))
   refine vf h14 0 0 fun a19 h19 => ?_
   refine vl h19 S10 2 fun a20 h20 => ?_
   refine vf h20 0 0 fun a21 h21 => ?_
   refine vl h21 S10 2 fun a22 h22 => ?_
   refine sv h22 (ex_build (zs := [.int .i64 0, .int .i64 0, .bool false, .bool false, .slice none 0 0, .slice none 0 0]) (pl := [(0, 1), (1, 1), (2, 1), (3, 1), (4, 1), (5, 1)]) (by kernel_rfl) (by kernel_rfl) (h22.evs2 rfl) rfl rfl) fun a23 h23 => ?_
   refine na (.agg #[.int .i64 0, .int .i64 0, .bool false, .bool false, .slice none 0 0, .slice none 0 0]) h23 rfl S10 fun b9 a24 X24 gb9 h24 S24 => ?_
   refine sw h24 S24 0 fun X25 S25 => ?_
   refine st_nil (go_then (st_seq (st_seq (st_reg ?_))))
   refine vf h24 1 1 fun a26 h26 => ?_
   refine vl h26 S25 3 fun a27 h27 => ?_
   refine sv h27 (ex_len Tryz.underlying25 (h27.ev rfl)) fun a28 h28 => ?_
   refine sv h28 (ex_gtr (h28.ev rfl) (h28.ev rfl)) fun a29 h29 => ?_
   refine st_nil (go_then ?_)
   refine st_if (h29.ev rfl) (fun hc1 => ?_) (fun hc1 => ?_)
   ·
    have hp : 0 < t.gs.length := by have := of_decide_eq_true hc1; omega
    obtain ⟨bA, oA, hA, _, hcA⟩ := Rd.opened (hd.below S25.below).r3 (by simpa using hp)
    have hg0 : grpT t = t.gs[0] := by unfold grpT; rw [if_pos hp, List.getD_eq_getElem?_getD, List.getElem?_eq_getElem hp]; rfl
    subst hA
    rw [hg0] at e1 e2 hg hw
    refine st_reg ?_
    refine vf h29 1 1 fun a30 h30 => ?_
    refine vl h30 S25 3 fun a31 h31 => ?_
    refine sv h31 (ex_index (i := 0) (sz := 1) Tryz.underlying25 (by kernel_rfl) (h31.ev rfl) (h31.ev rfl) (by omega) (by omega) rfl) fun a32 h32 => ?_
    refine sv h32 (lx (h32.ev rfl) (by rw [Nat.add_zero]; exact hcA 0 _ (by rw [List.getElem?_map, List.getElem?_eq_getElem hp]; rfl))) fun a33 h33 => ?_
    refine vf h33 1 1 fun a34 h34 => ?_
    refine sl_store h34 (wn rfl) ⟨rfl, rfl⟩ (h34.ev rfl) (h34.ev rfl) rfl (by kernel_rfl) S25 (i := 0) rfl rfl rfl fun X35 S35 => ?_
    refine nsr ?_
    refine sv (v := dscV d A1 A2 c1 c2) h34 (ex_loads (by kernel_rfl) (by kernel_rfl) (h34.ev rfl) (S35.cellsAll (i := 4) rfl)) fun a36 h36 => ?_
    refine sv (v := dscV (wnD t.u _) none none 0 0) h36 (ex_loads (by kernel_rfl) (by kernel_rfl) (h36.ev rfl) (S35.cellsAll (i := 0) rfl)) fun a37 h37 => ?_
    refine mv h37 fun a38 h38 => ?_
    refine sl_more h38 (wn rfl) (ex_call (fun _ _ => by kernel_rfl) (h38.evs rfl) rfl) rfl rfl S35 (childOf_any dir t.u _ d A1 A2 c1 c2 _ hz1 hw ho hg ((hd.below S35.below).r1) ((hd.below S35.below).r2)) fun p37 a39 X39 h39 S39 => ?_
    refine vx h39 fun a40 h40 => ?_
    refine vx h40 fun a41 h41 => ?_
    refine sw h41 S39 3 fun X42 S42 => ?_
    refine ma h41 fun a43 h43 => ?_
    refine st_nil (go_then (wp_ret ?_))
    refine finct h43 rfl rfl rfl S42 (i := 3) rfl (by kernel_rfl) (by kernel_rfl) ?_
    rw [e1, e2]
    exact ⟨p37, rfl, (S42.sub (.cons_cons _ (.cons _ (.cons _ (.cons _ (.cons _ (.cons _ .slnil)))))))⟩
   ·
    have hp : ¬ 0 < t.gs.length := by have := of_decide_eq_false hc1; omega
    have hg0 : grpT t = t.u := by unfold grpT; rw [if_neg hp]
    rw [hg0] at e1 e2 hg hw
    refine wp_skip (go_then (st_seq (st_reg ?_)))
    refine sv (v := dscV d A1 A2 c1 c2) h29 (ex_loads (by kernel_rfl) (by kernel_rfl) (h29.ev rfl) (S25.cellsAll (i := 4) rfl)) fun a44 h44 => ?_
    refine sv (v := dscV (wnD t.u _) none none 0 0) h44 (ex_loads (by kernel_rfl) (by kernel_rfl) (h44.ev rfl) (S25.cellsAll (i := 0) rfl)) fun a45 h45 => ?_
    refine mv h45 fun a46 h46 => ?_
    refine sl_more h46 (wn rfl) (ex_call (fun _ _ => by kernel_rfl) (h46.evs rfl) rfl) rfl rfl S25 (childOf_any dir t.u _ d A1 A2 c1 c2 _ hz1 hw ho hg ((hd.below S25.below).r1) ((hd.below S25.below).r2)) fun p37 a47 X47 h47 S47 => ?_
    refine vx h47 fun a48 h48 => ?_
    refine vx h48 fun a49 h49 => ?_
    refine sw h49 S47 3 fun X50 S50 => ?_
    refine ma h49 fun a51 h51 => ?_
    refine st_nil (go_then (wp_ret ?_))
    refine finct h51 rfl rfl rfl S50 (i := 3) rfl (by kernel_rfl) (by kernel_rfl) ?_
    rw [e1, e2]
    exact ⟨p37, rfl, (S50.sub (.cons_cons _ (.cons _ (.cons _ (.cons _ (.cons _ (.cons _ .slnil)))))))⟩
 case hB => kernel_rfl
 case hst => rfl
end Go.Proofs.YtanicpgmbhfipaaGreatDoor
namespace Go.Proofs.YtanicpgmbhfipaaGreatDoor
set_option linter.unusedVariables false
set_option linter.unusedSimpArgs false
set_option maxRecDepth 4000
open Go.RowKit Go.Sort Go.Shelf
theorem eqA_any (l m : List AceP) (A B : Option Addr) (c d : Nat) (w : World) (hr : Rd w w.heap.size A (acesV l)) (hs : Rd w w.heap.size B (acesV m)) (hl : l.length ≤ 1000) (hm : m.length ≤ 1000) :
 Calls Tryz.prog 81 #[.slice A l.length c, .slice B m.length d] w fun e w' => e = .returned (.bool (sameB l m)) ∧ Below w.heap.size w w' := by
 obtain ⟨Y, hY⟩ : ∃ Y, Y = sameB l m := ⟨_, rfl⟩
 have hYt : l = m → Y = true := fun q => by rw [hY]; unfold sameB; simp [q]
 have hYf : l ≠ m → Y = false := fun q => by rw [hY]; unfold sameB; simp [q]
 rw [← hY]
 refine st_enter (N := 26) Tryz.func81 rfl rfl rfl (fun a0 h0 => ?_)
 have S0 := St.init w
 refine st_seq (st_reg ?_)
 refine ma h0 fun a1 h1 => ?_
 refine st_nil (go_then (st_seq (st_seq (st_reg ?_))))
 refine mv h1 fun a2 h2 => ?_
 refine sv h2 (ex_len Tryz.underlying22 (h2.ev rfl)) fun a3 h3 => ?_
 refine mv h3 fun a4 h4 => ?_
 refine sv h4 (ex_len Tryz.underlying22 (h4.ev rfl)) fun a5 h5 => ?_
 refine sv h5 (ex_neq (h5.ev rfl) (h5.ev rfl)) fun a6 h6 => ?_
 refine st_nil (go_then ?_)
 refine st_if (h6.ev rfl) (fun hc0 => ?_) (fun hc0 => ?_)
 ·
  have hne : l.length ≠ m.length := by intro q; rw [q] at hc0; simp at hc0
  have hyf := hYf (fun q => hne (congrArg _ q))
  refine st_seq (st_reg ?_)
  refine ma h6 fun a7 h7 => ?_
  refine st_nil (go_then (wp_ret (ret_then ?_)))
  refine fin1 h7 rfl rfl ?_
  exact ⟨by rw [hyf], S0.below⟩
 ·
  have hle : l.length = m.length := by have : ((l.length : Int) != m.length) = false := hc0; simp at this; omega
  refine wp_skip (go_then (st_seq (st_seq (st_reg ?_))))
  refine mv h6 fun a8 h8 => ?_
  refine sv h8 (ex_len Tryz.underlying22 (h8.ev rfl)) fun a9 h9 => ?_
  refine mv h9 fun a10 h10 => ?_
  refine st_nil (go_then (wp_block ?_))
  refine st_loop h10 S0 [12, 0, 1] (fun (j : Nat) => [(13, .int .i64 (j : Nat))]) (fun (j : Nat) => j ≤ l.length ∧ ∀ k (h1 : k < l.length) (h2 : k < m.length), k < j → l[k] = m[k]) (fun (j : Nat) L => L) (fun (j : Nat) => l.length - j) (0) (⟨Nat.zero_le _, fun k _ _ h => absurd h (Nat.not_lt_zero _)⟩) ⟨rfl, rfl, rfl, rfl, trivial⟩ (S0) ?_
  intro j a11 X11 hF0 h11 S11
  refine st_seq (st_reg ?_)
  refine sv h11 (ex_lss (h11.ev rfl) (h11.ev rfl)) fun a12 h12 => ?_
  refine st_nil (go_then (st_seq ?_))
  refine st_if (h12.ev rfl) (fun hc1 => ?_) (fun hc1 => ?_)
  ·
   have hlt : j < l.length := by have := of_decide_eq_true hc1; omega
   have hlt' : j < m.length := by omega
   obtain ⟨b, o, rfl, hB, _⟩ := hr.opened (by rw [acesF_len]; omega)
   obtain ⟨b', o', rfl, hB', _⟩ := hs.opened (by rw [acesF_len]; omega)
   refine wp_skip (go_then (st_seq (wp_block (st_seq (st_reg ?_)))))
   refine mva h12 fun a14 h14 => ?_
   refine st_nil (go_then (st_seq ?_))
   apply dr_flow h14 [false, false, false, false, false, false, false, false] _ (by kernel_rfl)
   case h =>
    refine qv h14 (fun X hX => ex_move (h14.ev rfl)) fun a15 h15 => ?_
    refine qv h15 (fun X hX => ex_move (h15.ev rfl)) fun a16 h16 => ?_
    refine qv h16 (fun X hX => ex_index (i := j) (sz := 4) Tryz.underlying22 (by kernel_rfl) (h16.ev rfl) (h16.ev rfl) (by omega) (by omega) rfl) fun a17 h17 => ?_
    refine qv (v := aceU l[j]) h17 (fun X hX => ex_loads (by kernel_rfl) (by kernel_rfl) (h17.ev rfl) (acesAt ((S11.grow hX).rd0 hr) hlt)) fun a18 h18 => ?_
    refine qv h18 (fun X hX => ex_move (h18.ev rfl)) fun a19 h19 => ?_
    refine qv h19 (fun X hX => ex_move (h19.ev rfl)) fun a20 h20 => ?_
    refine qv h20 (fun X hX => ex_index (i := j) (sz := 4) Tryz.underlying22 (by kernel_rfl) (h20.ev rfl) (h20.ev rfl) (by omega) (by omega) rfl) fun a21 h21 => ?_
    refine qv (v := aceU m[j]) h21 (fun X hX => ex_loads (by kernel_rfl) (by kernel_rfl) (h21.ev rfl) (acesAt ((S11.grow hX).rd0 hs) hlt')) fun a22 h22 => ?_
    refine sq_nil ?_
    refine nd_end fun X23 hX23 hΦ23 => ?_
    have S23 := S11.grow hX23
    refine sv h22 (ex_tneq (ks := [.i .i64, .i .i64, .i .i64, .i .i64]) (by kernel_rfl) Tryz.underlying111 (by kernel_rfl) (h22.ev rfl) (h22.ev rfl) rfl rfl) fun a24 h24 => ?_
    refine st_nil (go_then ?_)
    refine st_if (h24.ev rfl) (fun hc2 => ?_) (fun hc2 => ?_)
    ·
     have hx0 : (!eqL (aceV l[j]) (aceV m[j])) = true := hc2
     have hx : ¬ eqL (aceV l[j]) (aceV m[j]) = true := fun q => by rw [q] at hx0; cases hx0
     have hyf := hYf (fun q => by subst q; exact hx (eqL_ace _))
     refine st_seq (st_reg ?_)
     refine ma h24 fun a25 h25 => ?_
     refine st_nil (go_then (wp_ret (ret_block (ret_then (ret_then (ret_block (ret_then ?_)))))))
     refine fin1 h25 rfl rfl ?_
     exact ⟨by rw [hyf], S23.below⟩
    ·
     have hx : (!eqL (aceV l[j]) (aceV m[j])) = false := hc2
     have heq : l[j] = m[j] := (eqL_aces _ _).1 (by simpa using hx)
     refine wp_skip (go_block (go_then (st_reg ?_)))
     refine sv h24 (ex_add (h24.ev rfl) (h24.ev rfl) (by omega)) fun a26 h26 => ?_
     refine mv h26 fun a27 h27 => ?_
     refine st_nil (go_then ?_)
     exact ⟨j + 1, (by omega), ⟨hlt, fun k h1 h2 hk => by rcases Nat.lt_or_eq_of_le (show k ≤ j by omega) with q | q; exact hF0.2 k h1 h2 q; subst q; exact heq⟩, h27.re ⟨rfl, rfl, rfl, rfl, trivial⟩, S23⟩
   case hB => kernel_rfl
   case hst => rfl
  ·
   have hge : l.length ≤ j := by have := of_decide_eq_false hc1; omega
   have heq : l = m := List.ext_getElem hle fun k h1 h2 => hF0.2 k h1 h2 (by omega)
   have hyt := hYt heq
   refine wp_exit ?_
   refine go_exit_then ?_
   refine go_exit_then ?_
   refine go_exit ?_
   refine go_then (st_seq (st_reg ?_))
   refine ma h12 fun a28 h28 => ?_
   refine st_nil (go_then (wp_ret ?_))
   refine fin1 h28 rfl rfl ?_
   exact ⟨by rw [hyt], S11.below⟩
theorem nds_all : ∀ r : Fin 512, (bits .andNot .i64 128 (r.val : Int) != 0) = !(bits .and .i64 (r.val : Int) 128 != 0) ∧ (bits .andNot .i64 384 (r.val : Int) != 0) = !(bits .and .i64 (r.val : Int) 128 != 0 && bits .and .i64 (r.val : Int) 256 != 0) ∧ (bits .andNot .i64 256 (r.val : Int) == 0) = (bits .and .i64 (r.val : Int) 256 != 0) ∧ (bits .and .i64 (r.val : Int) 64 != 0 → bits .and .i64 (r.val : Int) 128 != 0 → bits .and .i64 (r.val : Int) 192 = 192) := by decide +kernel
theorem rgt_fin (d : DscP) (t : TokP) : ∃ r : Fin 512, rgtP d t = (r.val : Int) := by
 obtain ⟨h1, h2⟩ := rgtN_bd d t 9
 obtain ⟨n, hn⟩ := Int.eq_ofNat_of_zero_le h1
 have h3 : rgtP d t = (n : Int) := hn
 have h4 : ((n : Int)) < 2 ^ 9 := by rw [← hn]; exact h2
 exact ⟨⟨n, by omega⟩, h3⟩
theorem nds_1 (d : DscP) (t : TokP) : (bits .andNot .i64 128 (rgtP d t) != 0) = !grtB d t 7 := by
 obtain ⟨r, hr⟩ := rgt_fin d t
 have h7 := rgt_and d t 7 (by decide)
 rw [hr] at h7 ⊢
 rw [(nds_all r).1]
 exact congrArg _ h7
theorem nds_2 (d : DscP) (t : TokP) : (bits .andNot .i64 384 (rgtP d t) != 0) = !(grtB d t 7 && grtB d t 8) := by
 obtain ⟨r, hr⟩ := rgt_fin d t
 have h7 := rgt_and d t 7 (by decide)
 have h8 := rgt_and d t 8 (by decide)
 rw [hr] at h7 h8 ⊢
 rw [(nds_all r).2.1]
 exact congrArg _ (congr (congrArg _ h7) h8)
theorem nds_3 (d : DscP) (t : TokP) : (bits .andNot .i64 256 (rgtP d t) == 0) = grtB d t 8 := by
 obtain ⟨r, hr⟩ := rgt_fin d t
 have h8 := rgt_and d t 8 (by decide)
 rw [hr] at h8 ⊢
 rw [(nds_all r).2.2.1]
 exact h8
theorem nds_4 {d : DscP} {t : TokP} (h6 : grtB d t 6 = true) (h7 : grtB d t 7 = true) : bits .and .i64 (rgtP d t) 192 = 192 := by
 obtain ⟨r, hr⟩ := rgt_fin d t
 have e6 := rgt_and d t 6 (by decide)
 have e7 := rgt_and d t 7 (by decide)
 rw [h6, hr] at e6
 rw [h7, hr] at e7
 rw [hr]
 exact (nds_all r).2.2.2 e6 e7
noncomputable def rplE (d e : DscP) (t : TokP) : Int := if mayE d e t = 0 then (if mrG d e t = true then 0 else 27) else mayE d e t
noncomputable def rplO (d e : DscP) (t : TokP) : DscP := if rplE d e t = 0 then e else zD
theorem acB_first3 {X : World} {b : Nat} {e1 e2 e3 : Int} {T : TypeId} (hb : Box X b #[.int .i64 e1, .int .i64 e2, .int .i64 e3] T) : Calls Tryz.prog 51 #[.slice (some ⟨b, 0, none⟩) 3 3] X fun e w' => e = .returned (.int .i64 (firstE [e1, e2, e3])) ∧ X = w' :=
 access_first_any b 0 [e1, e2, e3] X (by simp) (fun k hk => by
  rw [Nat.zero_add, Box.cells hb k]
  have : k = 0 ∨ k = 1 ∨ k = 2 := by simp at hk; omega
  rcases this with rfl | rfl | rfl <;> rfl)
theorem ReplacedBy_any (d e : DscP) (t : TokP) (A1 A2 B1 B2 A : Option Addr) (c1 c2 e1 e2 c : Nat) (w : World) (hd : DT d t A1 A2 A w) (he : DT e t B1 B2 A w) :
 Calls Tryz.prog 45 #[dscV d A1 A2 c1 c2, dscV e B1 B2 e1 e2, tokV t A c] w fun r w' => ∃ i : (Option Addr × Nat) × Option Addr × Nat, r = .returned (.tuple #[dscV (rplO d e t) i.1.1 i.2.1 i.1.2 i.2.2, .int .i64 (rplE d e t)]) ∧ St [] w w' [row2E 111 4 (.slice i.1.1 (rplO d e t).es.length i.1.2) (rplO d e t).es.length (acesV (rplO d e t).es) (.slice i.2.1 (rplO d e t).us.length i.2.2) (rplO d e t).us.length (acesV (rplO d e t).us)] := by
 have hl1 := hd.l1
 have hl2 := hd.l2
 have hl3 := hd.l3
 have hk1 := he.l1
 have hk2 := he.l2
 obtain ⟨N0, hN⟩ : ∃ N0 : Int, N0 = if e.o = d.o then 128 else 384 := ⟨_, rfl⟩
 obtain ⟨M0, hM0⟩ : ∃ M0, M0 = (e.o == d.o || (e.o == t.u || t.gs.contains e.o)) := ⟨_, rfl⟩
 obtain ⟨M1, hM1⟩ : ∃ M1, M1 = (M0 && (sameB d.us e.us || (bits .and .i64 t.p 4 != 0))) := ⟨_, rfl⟩
 obtain ⟨Y, hY⟩ : ∃ Y, Y = rplE d e t := ⟨_, rfl⟩
 have hYd := hY
 unfold rplE at hYd
 obtain ⟨D, hD⟩ : ∃ D, D = rplO d e t := ⟨_, rfl⟩
 have hDd := hD
 unfold rplO at hDd
 rw [← hY] at hDd
 rw [← hY, ← hD]
 refine st_enter (N := 79) Tryz.func45 rfl rfl rfl (fun a0 h0 => ?_)
 have S0 := St.init w
 refine st_seq (st_reg ?_)
 refine nb h0 rfl rfl S0 fun b3 a1 X1 gb3 h1 S1 => ?_
 refine nb h1 rfl rfl S1 fun b4 a2 X2 gb4 h2 S2 => ?_
 refine nb h2 rfl rfl S2 fun b5 a3 X3 gb5 h3 S3 => ?_
 refine na (.agg #[.int .i64 0, .int .i64 0, .bool false, .bool false, .slice none 0 0, .slice none 0 0]) h3 rfl S3 fun b6 a4 X4 gb6 h4 S4 => ?_
 refine ma h4 fun a5 h5 => ?_
 refine st_nil (go_then (st_seq (st_seq ?_)))
 apply dr_flow h5 [false, false, false, false, false] _ (by kernel_rfl)
 case h =>
  refine qv (v := dscV d A1 A2 c1 c2) h5 (fun X hX => ex_loads (by kernel_rfl) (by kernel_rfl) (h5.ev rfl) ((S4.grow hX).cellsAll (i := 3) rfl)) fun a6 h6 => ?_
  refine sq_bel h6 (wn rfl) rfl rfl (fun X => (ex_call (fun _ _ => by kernel_rfl) (h6.evs rfl) rfl)) (fun X hX => access_descriptorErr_any d A1 A2 c1 c2 _ hl1 hl2 ((hd.below (S4.grow hX).below).r1) ((hd.below (S4.grow hX).below).r2)) fun a7 h7 => ?_
  refine qv (v := dscV e B1 B2 e1 e2) h7 (fun X hX => ex_loads (by kernel_rfl) (by kernel_rfl) (h7.ev rfl) ((S4.grow hX).cellsAll (i := 2) rfl)) fun a8 h8 => ?_
  refine sq_bel h8 (wn rfl) rfl rfl (fun X => (ex_call (fun _ _ => by kernel_rfl) (h8.evs rfl) rfl)) (fun X hX => access_descriptorErr_any e B1 B2 e1 e2 _ hk1 hk2 ((he.below (S4.grow hX).below).r1) ((he.below (S4.grow hX).below).r2)) fun a9 h9 => ?_
  refine qv (v := tokV t A c) h9 (fun X hX => ex_loads (by kernel_rfl) (by kernel_rfl) (h9.ev rfl) ((S4.grow hX).cellsAll (i := 1) rfl)) fun a10 h10 => ?_
  refine sq_nil ?_
  refine nd_end fun X11 hX11 hΦ11 => ?_
  have S11 := S4.grow hX11
  refine sl_bel h10 (wn rfl) (ex_call (fun _ _ => by kernel_rfl) (h10.evs rfl) rfl) rfl rfl S11 (CheckToken_any t A c _ (by omega) ((hd.below S11.below).r3)) fun a12 X12 h12 S12 => ?_
  refine sl_new h12 (wn rfl) (f := fun b => .slice (some ⟨b, 0, none⟩) 3 3) (ex_bslice Tryz.underlying123 (by kernel_rfl) (by kernel_rfl) (h12.evs2 rfl) rfl rfl rfl (by decide) (by decide)) rfl rfl S12 fun b18 a13 X13 gb18 h13 S13 => ?_
  refine sl_pure h13 (wn rfl) (ex_call (fun _ _ => by kernel_rfl) (h13.evs rfl) rfl) rfl rfl (acB_first3 (S13.at_ (i := 0) rfl)) fun a14 h14 => ?_
  refine ma h14 fun a15 h15 => ?_
  refine nsr ?_
  refine mv h15 fun a16 h16 => ?_
  refine sv h16 (ex_neq (h16.ev rfl) (h16.ev rfl)) fun a17 h17 => ?_
  refine st_nil (go_then ?_)
  refine st_if (h17.ev rfl) (fun hc0 => ?_) (fun hc0 => ?_)
  ·
   have hne : mayE d e t ≠ 0 := by unfold mayE; simpa using hc0
   have hYe : Y = mayE d e t := by rw [hYd, if_neg hne]
   have hDe : D = zD := by rw [hDd, if_neg (by rw [hYe]; exact hne)]
   refine st_seq (st_reg ?_)
   refine sv h17 (ex_build (zs := [.int .i64 0, .int .i64 0, .bool false, .bool false, .slice none 0 0, .slice none 0 0]) (pl := [(0, 1), (1, 1), (2, 1), (3, 1), (4, 1), (5, 1)]) (by kernel_rfl) (by kernel_rfl) (h17.evs2 rfl) rfl rfl) fun a18 h18 => ?_
   refine mv h18 fun a19 h19 => ?_
   refine sw h19 S13 1 fun X20 S20 => ?_
   refine ma h19 fun a21 h21 => ?_
   refine st_nil (go_then (wp_ret (ret_then ?_)))
   refine finct h21 rfl rfl rfl S20 (i := 1) rfl (by kernel_rfl) (by kernel_rfl) ?_
   rw [hDe, hYe]
   exact ⟨((none, 0), none, 0), rfl, (S20.sub (List.nil_sublist _)).nil2 _ _⟩
  ·
   have hz : mayE d e t = 0 := by unfold mayE; simpa using hc0
   rw [if_pos hz] at hYd
   have hz1 : dscE d = 0 := firstE_zero hz _ (List.mem_cons_self ..)
   have hz2 : tokE t = 0 := firstE_zero hz _ (List.mem_cons_of_mem _ (List.mem_cons_of_mem _ (List.mem_cons_self ..)))
   obtain ⟨_, _, _, _, _, hok, _⟩ := dscE_zero hz1
   obtain ⟨_, _, _, ht4, ht5⟩ := tokE_zero hz2
   have hdo : dtO d t := ⟨fun a ha => (aceO_of (hok a ha).1).1, ht4, ht5⟩
   refine wp_skip (go_then (st_seq (st_reg ?_)))
   refine sv (v := tokV t A c) h17 (ex_loads (by kernel_rfl) (by kernel_rfl) (h17.ev rfl) (S13.cellsAll (i := 2) rfl)) fun a22 h22 => ?_
   refine sv h22 (ex_build (zs := [.int .i64 0, .slice none 0 0, .int .i64 0]) (pl := [(0, 3)]) (by kernel_rfl) (by kernel_rfl) (h22.evs2 rfl) rfl rfl) fun a23 h23 => ?_
   refine na (.agg #[.int .i64 0, .slice none 0 0, .int .i64 0]) h23 rfl S13 fun b9 a24 X24 gb9 h24 S24 => ?_
   refine sw h24 S24 0 fun X25 S25 => ?_
   refine nsr ?_
   refine ma h24 fun a26 h26 => ?_
   refine nsr ?_
   refine ma h26 fun a27 h27 => ?_
   refine st_nil (go_then (st_seq (st_seq (st_reg ?_))))
   refine vf h27 0 0 fun a28 h28 => ?_
   refine vl h28 S25 4 fun a29 h29 => ?_
   refine vf h29 0 0 fun a30 h30 => ?_
   refine vl h30 S25 5 fun a31 h31 => ?_
   refine sv h31 (ex_neq (h31.ev rfl) (h31.ev rfl)) fun a32 h32 => ?_
   refine st_nil (go_then ?_)
   refine st_joinH h32 S25 [(10, .int .i64 N0), (11, .bool M0)] [9, 7, 6, 5, 4, 3] ?_ (fun a33 X33 h33 S33 => ?_)
   ·
    refine st_if (h32.ev rfl) (fun hc1 => ?_) (fun hc1 => ?_)
    ·
     have h1 : e.o ≠ d.o := by intro q; rw [q] at hc1; simp at hc1
     refine st_seq (st_reg ?_)
     refine mv h32 fun a34 h34 => ?_
     refine sv h34 (ex_bits (r := 384) rfl (h34.ev rfl) (h34.ev rfl) (by decide +kernel)) fun a35 h35 => ?_
     refine ma h35 fun a36 h36 => ?_
     refine st_nil (go_then (st_reg ?_))
     refine vf h36 0 0 fun a37 h37 => ?_
     refine vl h37 S25 4 fun a38 h38 => ?_
     refine vf h38 0 0 fun a39 h39 => ?_
     refine vl h39 S25 3 fun a40 h40 => ?_
     refine sv h40 (ex_eql (h40.ev rfl) (h40.ev rfl)) fun a41 h41 => ?_
     refine mv h41 fun a42 h42 => ?_
     apply sl_or h42 S25 38 rfl 6 44
     case hf =>
      intro gc38
      refine sy h42 (fx 1 1 (h42.ev rfl)) fun a43 h43 => ?_
      refine sy h43 (lx (h43.ev rfl) (S25.cell (i := 3) rfl rfl)) fun a44 h44 => ?_
      refine sy h44 (fx 0 0 (h44.ev rfl)) fun a45 h45 => ?_
      refine sy h45 (lx (h45.ev rfl) (S25.cell (i := 4) rfl rfl)) fun a46 h46 => ?_
      refine sl_pure h46 (wanted_yes h46 _ rfl rfl rfl gc38) (ex_call (fun _ _ => by kernel_rfl) (h46.evs rfl) rfl) rfl rfl (contains_any A c t.gs e.o _ (by omega) ((hd.below S25.below).r3)) fun a47 h47 => ?_
      refine sv h47 (ex_pick_f (h47.ev rfl) gc38 (h47.ev rfl)) fun a48 h48 => ?_
      exact st_nil ⟨h48.mid (m := [(_, _), (_, _), (_, _), (_, _), (_, _)]) rfl, S25⟩
     case ht =>
      intro gc38
      refine no h42 fun a49 h49 => ?_
      refine no h49 fun a50 h50 => ?_
      refine no h50 fun a51 h51 => ?_
      refine no h51 fun a52 h52 => ?_
      refine no h52 fun a53 h53 => ?_
      refine sv h53 (ex_pick_t (h53.ev rfl) gc38 (h53.ev rfl)) fun a54 h54 => ?_
      exact st_nil ⟨h54.mid (m := [(_, _), (_, _), (_, _), (_, _), (_, _)]) rfl, S25⟩
     case h =>
      rintro a55 X55 ⟨h55, S55⟩
      refine ma h55 fun a56 h56 => ?_
      refine st_nil (go_then ?_)
      replace h56 := Has.also h56 (t := 10) (v := .int .i64 N0) ((show look _ 10 = some (.int .i64 384) from rfl).trans (by rw [hN, if_neg h1]))
      replace h56 := Has.also h56 (t := 11) (v := .bool M0) ((show look _ 11 = some (.bool (e.o == t.u || t.gs.contains e.o)) from rfl).trans (by rw [hM0, beq_eq_false_iff_ne.2 h1, Bool.false_or]))
      exact ⟨h56.re ⟨rfl, rfl, rfl, rfl, rfl, rfl, rfl, rfl, trivial⟩, S55⟩
    ·
     have h1 : e.o = d.o := by simpa using hc1
     refine wp_skip (go_then ?_)
     replace h32 := Has.also h32 (t := 10) (v := .int .i64 N0) ((show look _ 10 = some (.int .i64 128) from rfl).trans (by rw [hN, if_pos h1]))
     replace h32 := Has.also h32 (t := 11) (v := .bool M0) ((show look _ 11 = some (.bool true) from rfl).trans (by rw [hM0, h1, beq_self_eq_true, Bool.true_or]))
     exact ⟨h32.re ⟨rfl, rfl, rfl, rfl, rfl, rfl, rfl, rfl, trivial⟩, S25⟩
   ·
    refine go_then (st_seq (st_seq (st_reg ?_)))
    refine vf h33 5 5 fun a57 h57 => ?_
    refine vl h57 S33 5 fun a58 h58 => ?_
    refine vf h58 5 5 fun a59 h59 => ?_
    refine vl h59 S33 4 fun a60 h60 => ?_
    refine sl_bel h60 (wn rfl) (ex_call (fun _ _ => by kernel_rfl) (h60.evs rfl) rfl) rfl rfl S33 (eqA_any d.us e.us A2 B2 c2 e2 _ ((hd.below S33.below).r2) ((he.below S33.below).r2) (by omega) (by omega)) fun a61 X61 h61 S61 => ?_
    refine sv h61 (ex_not (h61.ev rfl)) fun a62 h62 => ?_
    refine st_nil (go_then ?_)
    refine st_joinH h62 S61 [(11, .bool M1)] [10, 9, 7, 6, 4, 3] ?_ (fun a63 X63 h63 S63 => ?_)
    ·
     refine st_if (h62.ev rfl) (fun hc2 => ?_) (fun hc2 => ?_)
     ·
      refine st_reg ?_
      refine mvv h62 fun a65 h65 => ?_
      apply sl_and h65 S61 52 rfl 5 57
      case ht =>
       intro gc52
       refine sy h65 (fx 2 2 (h65.ev rfl)) fun a66 h66 => ?_
       refine sy h66 (lx (h66.ev rfl) (S61.cell (i := 3) rfl rfl)) fun a67 h67 => ?_
       refine sy h67 (ex_bits (r := bits .and .i64 t.p 4) rfl (h67.ev rfl) (h67.ev rfl) rfl) fun a68 h68 => ?_
       refine sy h68 (ex_neq (h68.ev rfl) (h68.ev rfl)) fun a69 h69 => ?_
       refine sv h69 (ex_pick_t (h69.ev rfl) gc52 (h69.ev rfl)) fun a70 h70 => ?_
       exact st_nil ⟨h70.mid (m := [(_, _), (_, _), (_, _), (_, _)]) rfl, S61⟩
      case hf =>
       intro gc52
       refine no h65 fun a71 h71 => ?_
       refine no h71 fun a72 h72 => ?_
       refine no h72 fun a73 h73 => ?_
       refine no h73 fun a74 h74 => ?_
       refine sv h74 (ex_pick_f (h74.ev rfl) gc52 (h74.ev rfl)) fun a75 h75 => ?_
       exact st_nil ⟨h75.mid (m := [(_, _), (_, _), (_, _), (_, _)]) rfl, S61⟩
      case h =>
       rintro a76 X76 ⟨h76, S76⟩
       refine ma h76 fun a77 h77 => ?_
       refine st_nil (go_then ?_)
       have h2 : sameB d.us e.us = false := by simpa using hc2
       replace h77 := Has.also h77 (t := 11) (v := .bool M1) ((show look _ 11 = some (.bool (M0 && (bits .and .i64 t.p 4 != 0))) from rfl).trans (by rw [hM1, h2, Bool.false_or]))
       exact ⟨h77.re ⟨rfl, rfl, rfl, rfl, rfl, rfl, rfl, trivial⟩, S76⟩
     ·
      refine wp_skip (go_then ?_)
      have h2 : sameB d.us e.us = true := by simpa using hc2
      replace h62 := Has.also h62 (t := 11) (v := .bool M1) ((show look _ 11 = some (.bool M0) from rfl).trans (by rw [hM1, h2, Bool.true_or, Bool.and_true]))
      exact ⟨h62.re ⟨rfl, rfl, rfl, rfl, rfl, rfl, rfl, trivial⟩, S61⟩
    ·
     refine go_then (st_seq (st_seq (st_reg ?_)))
     refine mv h63 fun a78 h78 => ?_
     refine sv h78 (ex_not (h78.ev rfl)) fun a79 h79 => ?_
     refine mv h79 fun a80 h80 => ?_
     apply sl_or h80 S63 60 rfl 8 68
     case hf =>
      intro gc60
      refine sy h80 (ex_move (h80.ev rfl)) fun a81 h81 => ?_
      refine sl_val (v := dscV d A1 A2 c1 c2) h81 (wanted_yes h81 _ rfl rfl rfl gc60) (ex_loads (by kernel_rfl) (by kernel_rfl) (h81.ev rfl) (S63.cellsAll (i := 5) rfl)) rfl rfl fun a82 h82 => ?_
      refine sl_val (v := dscV d A1 A2 c1 c2) h82 (wanted_yes h82 _ rfl rfl rfl gc60) (ex_build (zs := [.int .i64 0, .int .i64 0, .bool false, .bool false, .slice none 0 0, .slice none 0 0]) (pl := [(0, 6)]) (by kernel_rfl) (by kernel_rfl) (h82.evs2 rfl) rfl rfl) rfl rfl fun a83 h83 => ?_
      refine sl_val (v := tokV t A c) h83 (wanted_yes h83 _ rfl rfl rfl gc60) (ex_loads (by kernel_rfl) (by kernel_rfl) (h83.ev rfl) (S63.cellsAll (i := 0) rfl)) rfl rfl fun a84 h84 => ?_
      refine sl_bel h84 (wanted_yes h84 _ rfl rfl rfl gc60) (ex_call (fun _ _ => by kernel_rfl) (h84.evs rfl) rfl) rfl rfl S63 (most_any d t A1 A2 A c1 c2 c _ (hd.below S63.below) hdo) fun a85 X85 h85 S85 => ?_
      refine sy h85 (ex_bits (r := bits .andNot .i64 N0 (rgtP d t)) rfl (h85.ev rfl) (h85.ev rfl) rfl) fun a86 h86 => ?_
      refine sy h86 (ex_neq (h86.ev rfl) (h86.ev rfl)) fun a87 h87 => ?_
      refine sv h87 (ex_pick_f (h87.ev rfl) gc60 (h87.ev rfl)) fun a88 h88 => ?_
      exact st_nil ⟨h88.mid (m := [(_, _), (_, _), (_, _), (_, _), (_, _), (_, _), (_, _)]) rfl, S85⟩
     case ht =>
      intro gc60
      refine no h80 fun a89 h89 => ?_
      refine no h89 fun a90 h90 => ?_
      refine no h90 fun a91 h91 => ?_
      refine no h91 fun a92 h92 => ?_
      refine no h92 fun a93 h93 => ?_
      refine no h93 fun a94 h94 => ?_
      refine no h94 fun a95 h95 => ?_
      refine sv h95 (ex_pick_t (h95.ev rfl) gc60 (h95.ev rfl)) fun a96 h96 => ?_
      exact st_nil ⟨h96.mid (m := [(_, _), (_, _), (_, _), (_, _), (_, _), (_, _), (_, _)]) rfl, S63⟩
     case h =>
      rintro a97 X97 ⟨h97, S97⟩
      have hM : (!M1 || bits .andNot .i64 N0 (rgtP d t) != 0) = !mrG d e t := by
       have h4 : (bits .and .i64 t.p 4 != 0) = bitI t.p 2 := and_bit t.p 2 ht4 (by omega) (by decide)
       unfold mrG mrB
       rw [hM1, hM0, h4]
       by_cases q : e.o = d.o
       · rw [hN, if_pos q, nds_1, q, beq_self_eq_true, Bool.true_or, Bool.true_or, Bool.true_and, Bool.and_true]
         cases (sameB d.us e.us || bitI t.p 2) <;> cases grtB d t 7 <;> rfl
       · rw [hN, if_neg q, nds_2, beq_eq_false_iff_ne.2 q, beq_eq_false_iff_ne.2 (fun h => q h.symm), Bool.false_or, Bool.false_or]
         cases (sameB d.us e.us || bitI t.p 2) <;> cases grtB d t 7 <;> cases grtB d t 8 <;> cases (e.o == t.u || t.gs.contains e.o) <;> rfl
      have hM' := hM
      refine st_nil (go_then ?_)
      refine st_if (h97.ev rfl) (fun hc3 => ?_) (fun hc3 => ?_)
      ·
       have h3 : mrG d e t = false := by rw [hc3] at hM; simpa using hM.symm
       have hYe : Y = 27 := by rw [hYd, if_neg (by rw [h3]; decide)]
       have hDe : D = zD := by rw [hDd, if_neg (by rw [hYe]; decide)]
       refine st_seq (st_reg ?_)
       refine sv h97 (ex_build (zs := [.int .i64 0, .int .i64 0, .bool false, .bool false, .slice none 0 0, .slice none 0 0]) (pl := [(0, 1), (1, 1), (2, 1), (3, 1), (4, 1), (5, 1)]) (by kernel_rfl) (by kernel_rfl) (h97.evs2 rfl) rfl rfl) fun a98 h98 => ?_
       refine sw h98 S97 2 fun X99 S99 => ?_
       refine ma h98 fun a100 h100 => ?_
       refine st_nil (go_then (wp_ret (ret_then ?_)))
       refine finct h100 rfl rfl rfl S99 (i := 2) rfl (by kernel_rfl) (by kernel_rfl) ?_
       rw [hDe, hYe]
       exact ⟨((none, 0), none, 0), rfl, (S99.sub (List.nil_sublist _)).nil2 _ _⟩
      ·
       have h3 : mrG d e t = true := by rw [hc3] at hM; simpa using hM.symm
       have hYe : Y = 0 := by rw [hYd, if_pos h3]
       have hDe : D = e := by rw [hDd, if_pos hYe]
       refine wp_skip (go_then (st_seq ?_))
       apply dr_flowM h97 (fun _ => False) [] [] [false, false, true, false, false, true, false] _ (by kernel_rfl) all0
       case h =>
        refine qv h97 (fun X hX => fx 4 4 (h97.ev rfl)) fun a101 h101 => ?_
        refine qv h101 (fun X hX => lx (h101.ev rfl) ((S97.grow (Grw.below hX)).cell (i := 4) rfl rfl)) fun a102 h102 => ?_
        refine qv h102 (fun X hX => fx 5 5 (h102.ev rfl)) fun a103 h103 => ?_
        refine qv h103 (fun X hX => lx (h103.ev rfl) ((S97.grow (Grw.below hX)).cell (i := 4) rfl rfl)) fun a104 h104 => ?_
        refine qv h104 (fun X hX => fx 4 4 (h104.ev rfl)) fun a105 h105 => ?_
        refine sq_nil ?_
        apply nm_step (O := (fun _ => False)) (k := 2) (deps := []) (R := TelJ (slJ e.es.length) (OwR e.es X97.heap.size)) h105 rfl rfl rfl all0 (TelJ.stable OwR.grow) all0 all0
        case hx => exact fun X hX hΦ => lv_telj (ex_call (fun _ _ => by kernel_rfl) (h105.evs rfl) rfl) (clone_ow e.es B1 e1 X97.heap.size _ hX.size ((S97.grow (Grw.below hX)).rd0 he.r1) (by omega))
        intro v72 a72 h72
        apply nm_step (O := (fun _ => False)) (k := 5) (deps := []) (R := TelJ (slJ e.us.length) (OwR e.us X97.heap.size)) h72 rfl rfl rfl all0 (TelJ.stable OwR.grow) all0 all0
        case hx => exact fun X hX hΦ => lv_telj (ex_call (fun _ _ => by kernel_rfl) (h72.evs rfl) rfl) (clone_ow e.us B2 e2 X97.heap.size _ hX.size ((S97.grow (Grw.below hX)).rd0 he.r2) (by omega))
        intro v75 a106 h106
        refine nm_end (O := (fun _ => False)) all0 fun X106 hX9 hΦ9 => ?_
        obtain ⟨⟨C1, k1⟩, rfl, q1⟩ := told_all hΦ9 (k := 2) rfl
        obtain ⟨⟨C2, k2⟩, rfl, q2⟩ := told_all hΦ9 (k := 5) rfl
        have S106 := S97.add (Grw.below hX9) (e := row2E 111 4 (.slice C1 e.es.length k1) e.es.length (acesV e.es) (.slice C2 e.us.length k2) e.us.length (acesV e.us)) ⟨ownsRow_mono q1 (Nat.zero_le _), ownsRow_mono q2 (Nat.zero_le _)⟩ (fun k hk => hk.elim (fun hk => q1.lt k hk) (fun hk => q2.lt k hk))
        refine sl_store h106 (wn rfl) ⟨rfl, rfl⟩ (h106.ev rfl) (h106.ev rfl) rfl (by kernel_rfl) S106 (i := 5) rfl rfl rfl fun X107 S107 => ?_
        refine vf h106 5 5 fun a108 h108 => ?_
        refine sl_store h108 (wn rfl) ⟨rfl, rfl⟩ (h108.ev rfl) (h108.ev rfl) rfl (by kernel_rfl) S107 (i := 5) rfl rfl rfl fun X109 S109 => ?_
        refine nsr ?_
        refine sv h108 (ex_loads (by kernel_rfl) (by kernel_rfl) (h108.ev rfl) (S109.cellsAll (i := 5) rfl)) fun a110 h110 => ?_
        refine sw h110 S109 3 fun X111 S111 => ?_
        refine ma h110 fun a112 h112 => ?_
        refine st_nil (go_then (wp_ret ?_))
        refine finct h112 rfl rfl rfl S111 (i := 3) rfl (by kernel_rfl) (by kernel_rfl) ?_
        rw [hDe, hYe]
        exact ⟨((C1, k1), C2, k2), rfl, (S111.sub (.cons_cons _ (.cons _ (.cons _ (.cons _ (.cons _ (.cons _ (.cons _ .slnil))))))))⟩
       case hB => kernel_rfl
 case hB => kernel_rfl
 case hst => rfl
end Go.Proofs.YtanicpgmbhfipaaGreatDoor
namespace Go.Proofs.YtanicpgmbhfipaaGreatDoor
set_option linter.unusedVariables false
set_option linter.unusedSimpArgs false
set_option maxRecDepth 4000
open Go.RowKit Go.Sort Go.Shelf
def inhI (dir : Bool) (o g : Int) (l : List AceP) : Bool := decide ((inhL dir o g l).length ≤ 16)
def rchB (dir : Bool) (o g : Int) (d : DscP) : Bool := inhI dir o g d.es && inhI dir o g d.us
def rchO (dir : Bool) (o g : Int) (d : DscP) : DscP := if rchB dir o g d = true then ⟨o, g, false, d.he, canL (inhL dir o g d.es), canL (inhL dir o g d.us)⟩ else zD
theorem chE_eq {dir : Bool} {o g : Int} {d : DscP} (h1 : okF d.es) (h2 : okF d.us) (ho : hldB o = true) (hg : hldB g = true) : chE dir o g d = (if rchB dir o g d = true then 0 else 16) ∧ chO dir o g d = rchO dir o g d := by
 have e1 : chE dir o g d = (if rchB dir o g d = true then 0 else 16) := by
  unfold chE rchB inhI
  rw [ihG_eq h1 ho hg, ihG_eq h2 ho hg]
  cases decide ((inhL dir o g d.es).length ≤ 16) <;> cases decide ((inhL dir o g d.us).length ≤ 16) <;> rfl
 refine ⟨e1, ?_⟩
 unfold chO rchO
 rw [e1, ihG_eq h1 ho hg, ihG_eq h2 ho hg]
 cases rchB dir o g d <;> rfl
theorem exp0_any (A : Option Addr) (c : Nat) (w : World) :
 Calls Tryz.prog 106 #[.slice A 0 c] w fun e w' => e = .returned (.slice none 0 0) ∧ Below w.heap.size w w' := by
 refine st_enter (N := 26) Tryz.func106 rfl rfl rfl (fun a0 h0 => ?_)
 have S0 := St.init w
 refine st_seq (st_reg ?_)
 refine ma h0 fun a1 h1 => ?_
 refine nsr ?_
 refine ma h1 fun a2 h2 => ?_
 refine st_nil (go_then (st_seq (st_seq (st_reg ?_))))
 refine ma h2 fun a3 h3 => ?_
 refine st_nil (go_then (wp_block ?_))
 refine st_loop h3 S0 [2, 0] (fun (i : Nat) => [(4, .int .i64 (0 : Nat)), (3, .slice none 0 0)]) (fun (i : Nat) => i = 0) (fun (i : Nat) L => L) (fun (i : Nat) => i) (0) (rfl) ⟨rfl, rfl, rfl, rfl, trivial⟩ (S0) ?_
 intro i a4 X4 hF0 h4 S4
 refine st_seq (st_seq (st_reg ?_))
 refine mvv h4 fun a6 h6 => ?_
 refine sv h6 (ex_len Tryz.underlying22 (h6.ev rfl)) fun a7 h7 => ?_
 refine sv h7 (ex_lss (h7.ev rfl) (h7.ev rfl)) fun a8 h8 => ?_
 refine st_nil (go_then ?_)
 refine st_if_f (h8.ev rfl) (rfl) ?_
 refine wp_exit ?_
 refine go_exit_then ?_
 refine go_exit_then ?_
 refine go_exit ?_
 refine go_then (st_seq (st_reg ?_))
 refine mva h8 fun a10 h10 => ?_
 refine st_nil (go_then (wp_ret ?_))
 refine fin1 h10 rfl rfl ?_
 exact ⟨rfl, S4.below⟩
theorem St.rows2 {M : List Nat} {w X : World} {L : List Ent} {i j n1 n2 sz : Nat} {T : TypeId} {v1 v2 : Value} {xs1 xs2 : List Value} (h : St M w X L) (hi : L[i]? = some (.row v1 n1 T sz xs1)) (hj : L[j]? = some (.row v2 n2 T sz xs2)) : St M w X [row2E T sz v1 n1 xs1 v2 n2 xs2] :=
 ⟨h.os, h.tape, h.output, h.size, h.block, fun e he => by rw [List.mem_singleton.1 he]; exact ⟨h.at_ hi, h.at_ hj⟩, fun e he b hb => by
  rw [List.mem_singleton.1 he] at hb
  rcases hb with hb | hb
  · exact h.new _ (List.mem_of_getElem? hi) b hb
  · exact h.new _ (List.mem_of_getElem? hj) b hb, List.pairwise_singleton _ _⟩
theorem rChild_any (dir : Bool) (o g : Int) (d : DscP) (A1 A2 : Option Addr) (c1 c2 : Nat) (w : World) (h1 : d.es.length ≤ 16) (h2 : d.us.length ≤ 16) (hf1 : okF d.es) (hf2 : okF d.us) (ho : hldB o = true) (hg : hldB g = true) (hr1 : Rd w w.heap.size A1 (acesV d.es)) (hr2 : Rd w w.heap.size A2 (acesV d.us)) :
 Calls Tryz.prog 83 #[dscV d A1 A2 c1 c2, dscV (wnD o g) none none 0 0, .bool dir] w fun e w' => ∃ i : (Option Addr × Nat) × Option Addr × Nat, e = .returned (.tuple #[dscV (rchO dir o g d) i.1.1 i.2.1 i.1.2 i.2.2, .bool (rchB dir o g d)]) ∧ St [] w w' [row2E 111 4 (.slice i.1.1 (rchO dir o g d).es.length i.1.2) (rchO dir o g d).es.length (acesV (rchO dir o g d).es) (.slice i.2.1 (rchO dir o g d).us.length i.2.2) (rchO dir o g d).us.length (acesV (rchO dir o g d).us)] := by
 obtain ⟨E, hE⟩ : ∃ E, E = rchB dir o g d := ⟨_, rfl⟩
 obtain ⟨D, hD⟩ : ∃ D, D = rchO dir o g d := ⟨_, rfl⟩
 have hEd := hE
 unfold rchB inhI at hEd
 have hDd := hD
 unfold rchO at hDd
 rw [← hE] at hDd
 rw [← hE, ← hD]
 have hl1 := inhL_len dir o g d.es
 have hl2 := inhL_len dir o g d.us
 have hq1 : okF (inhL dir o g d.es) := by rw [← ihG_eq hf1 ho hg]; exact okF_inh hf1 ho hg
 have hq2 : okF (inhL dir o g d.us) := by rw [← ihG_eq hf2 ho hg]; exact okF_inh hf2 ho hg
 refine st_enter (N := 75) Tryz.func83 rfl rfl rfl (fun a0 h0 => ?_)
 have S0 := St.init w
 refine st_seq (st_reg ?_)
 refine nb h0 rfl rfl S0 fun b3 a1 X1 gb3 h1 S1 => ?_
 refine nb h1 rfl rfl S1 fun b4 a2 X2 gb4 h2 S2 => ?_
 refine na (.agg #[.int .i64 0, .int .i64 0, .bool false, .bool false, .slice none 0 0, .slice none 0 0]) h2 rfl S2 fun b6 a3 X3 gb6 h3 S3 => ?_
 refine ma h3 fun a4 h4 => ?_
 refine nsr ?_
 refine vf h4 0 0 fun a5 h5 => ?_
 refine vl h5 S3 1 fun a6 h6 => ?_
 refine vf h6 1 1 fun a7 h7 => ?_
 refine vl h7 S3 1 fun a8 h8 => ?_
 refine vf h8 2 2 fun a9 h9 => ?_
 refine vl h9 S3 1 fun a10 h10 => ?_
 refine sv h10 (ex_build (zs := [.int .i64 0, .int .i64 0, .bool false, .bool false, .slice none 0 0, .slice none 0 0]) (pl := [(0, 1), (1, 1), (2, 1), (3, 1), (4, 1), (5, 1)]) (by kernel_rfl) (by kernel_rfl) (h10.evs2 rfl) rfl rfl) fun a11 h11 => ?_
 refine na (.agg #[.int .i64 0, .int .i64 0, .bool false, .bool false, .slice none 0 0, .slice none 0 0]) h11 rfl S3 fun b8 a12 X12 gb8 h12 S12 => ?_
 refine sw h12 S12 0 fun X13 S13 => ?_
 refine nsr ?_
 refine vf h12 3 3 fun a14 h14 => ?_
 refine vl h14 S13 2 fun a15 h15 => ?_
 refine mv h15 fun a16 h16 => ?_
 apply sl_or h16 S13 20 rfl 8 28
 case hf =>
  intro gc20
  refine sy h16 (fx 3 3 (h16.ev rfl)) fun a17 h17 => ?_
  refine sy h17 (lx (h17.ev rfl) (S13.cell (i := 3) rfl rfl)) fun a18 h18 => ?_
  refine sy h18 (ex_move (h18.ev rfl)) fun a19 h19 => ?_
  apply sl_and h19 S13 23 rfl 4 27
  case ht =>
   intro gc23
   refine sy h19 (fx 2 2 (h19.ev rfl)) fun a20 h20 => ?_
   refine sy h20 (lx (h20.ev rfl) (S13.cell (i := 2) rfl rfl)) fun a21 h21 => ?_
   refine sy h21 (ex_not (h21.ev rfl)) fun a22 h22 => ?_
   refine sy h22 (ex_pick_t (h22.ev rfl) gc23 (h22.ev rfl)) fun a23 h23 => ?_
   exact st_nil ⟨h23.mid (m := [(_, _), (_, _), (_, _)]) rfl, S13⟩
  case hf =>
   intro gc23
   refine no h19 fun a24 h24 => ?_
   refine no h24 fun a25 h25 => ?_
   refine no h25 fun a26 h26 => ?_
   refine sy h26 (ex_pick_f (h26.ev rfl) gc23 (h26.ev rfl)) fun a27 h27 => ?_
   exact st_nil ⟨h27.mid (m := [(_, _), (_, _), (_, _)]) rfl, S13⟩
  case h =>
   rintro a28 X28 ⟨h28, S28⟩
   refine sv h28 (ex_pick_f (h28.ev rfl) gc20 (h28.ev rfl)) fun a29 h29 => ?_
   exact st_nil ⟨h29.mid (m := [(_, _), (_, _), (_, _), (_, _)]) rfl, S28⟩
 case ht =>
  intro gc20
  refine no h16 fun a30 h30 => ?_
  refine no h30 fun a31 h31 => ?_
  refine no h31 fun a32 h32 => ?_
  refine sl_no h32 (wanted_not h32 _ rfl rfl rfl) rfl rfl fun a33 h33 => ?_
  refine sl_no h33 (wanted_not h33 _ rfl rfl rfl) rfl rfl fun a34 h34 => ?_
  refine sl_no h34 (wanted_not h34 _ rfl rfl rfl) rfl rfl fun a35 h35 => ?_
  refine no h35 fun a36 h36 => ?_
  refine sv h36 (ex_pick_t (h36.ev rfl) gc20 (h36.ev rfl)) fun a37 h37 => ?_
  exact st_nil ⟨h37.mid (m := [(_, _), (_, _), (_, _), (_, _), (_, _), (_, _), (_, _)]) rfl, S13⟩
 case h =>
  rintro a38 X38 ⟨h38, S38⟩
  refine vf h38 3 3 fun a39 h39 => ?_
  refine sl_store h39 (wn rfl) ⟨rfl, rfl⟩ (h39.ev rfl) (h39.ev rfl) rfl (by kernel_rfl) S38 (i := 0) rfl rfl rfl fun X40 S40 => ?_
  rw [show ((wnD o g).he || (d.he && !(wnD o g).pr)) = d.he from (by show (false || (d.he && !false)) = d.he; cases d.he <;> rfl)] at S40
  refine st_nil (go_then (st_seq ?_))
  apply dr_flow h39 [false, false, false, false, false] _ (by kernel_rfl)
  case h =>
   refine qv h39 (fun X hX => fx 4 4 (h39.ev rfl)) fun a41 h41 => ?_
   refine qv h41 (fun X hX => lx (h41.ev rfl) ((S40.grow hX).cell (i := 2) rfl rfl)) fun a42 h42 => ?_
   refine sq_bel h42 (wn rfl) rfl rfl (fun X => (ex_call (fun _ _ => by kernel_rfl) (h42.evs rfl) rfl)) (fun X hX => exp0_any none 0 _) fun a43 h43 => ?_
   refine qv h43 (fun X hX => fx 5 5 (h43.ev rfl)) fun a44 h44 => ?_
   refine qv h44 (fun X hX => lx (h44.ev rfl) ((S40.grow hX).cell (i := 2) rfl rfl)) fun a45 h45 => ?_
   refine sq_nil ?_
   refine nd_end fun X46 hX46 hΦ46 => ?_
   have S46 := S40.grow hX46
   refine sl_bel h45 (wn rfl) (ex_call (fun _ _ => by kernel_rfl) (h45.evs rfl) rfl) rfl rfl S46 (exp0_any none 0 _) fun a47 X47 h47 S47 => ?_
   refine maa h47 fun a49 h49 => ?_
   replace S47 := (S47.nilRow 111 4).nilRow 111 4
   refine st_nil (go_then (st_seq (st_seq (st_reg ?_))))
   refine vf h49 2 2 fun a50 h50 => ?_
   refine vl h50 S47 4 fun a51 h51 => ?_
   refine sv h51 (ex_not (h51.ev rfl)) fun a52 h52 => ?_
   refine st_nil (go_then ?_)
   refine st_if_t (h52.ev rfl) (rfl) ?_
   refine st_seq (st_reg ?_)
   refine mv h52 fun a53 h53 => ?_
   refine vf h53 4 4 fun a54 h54 => ?_
   refine vl h54 S47 5 fun a55 h55 => ?_
   refine mv h55 fun a56 h56 => ?_
   refine vf h56 0 0 fun a57 h57 => ?_
   refine vl h57 S47 4 fun a58 h58 => ?_
   refine vf h58 1 1 fun a59 h59 => ?_
   refine vl h59 S47 4 fun a60 h60 => ?_
   refine sl_more h60 (wn rfl) (ex_call (fun _ _ => by kernel_rfl) (h60.evs rfl) rfl) rfl rfl S47 (refInh_any dir o g d.es A1 c1 _ (by omega) hf1 (S47.rd0 hr1)) fun p47 a61 X61 h61 S61 => ?_
   refine sl_append (z := .agg #[.int .i64 0, .int .i64 0, .int .i64 0, .int .i64 0]) (sz := 4) (bytes := 32) h61 (wn rfl) ⟨rfl, rfl⟩ rfl Tryz.underlying22 (by kernel_rfl) rfl rfl (h61.ev rfl) (h61.ev rfl) S61 (i := 1) rfl (S61.rdOf (i := 0) rfl) (acesF_len _) (aceV_one _) ⟨(by omega), by decide⟩ fun A48 c48 a62 X62 h62 S62 => ?_
   refine ma h62 fun a63 h63 => ?_
   rw [Nat.zero_add] at h63
   rw [Nat.zero_add, List.nil_append] at S62
   refine st_nil (go_then (st_reg ?_))
   refine mv h63 fun a64 h64 => ?_
   refine vf h64 5 5 fun a65 h65 => ?_
   refine vl h65 S62 6 fun a66 h66 => ?_
   refine mv h66 fun a67 h67 => ?_
   refine vf h67 0 0 fun a68 h68 => ?_
   refine vl h68 S62 5 fun a69 h69 => ?_
   refine vf h69 1 1 fun a70 h70 => ?_
   refine vl h70 S62 5 fun a71 h71 => ?_
   refine sl_more h71 (wn rfl) (ex_call (fun _ _ => by kernel_rfl) (h71.evs rfl) rfl) rfl rfl S62 (refInh_any dir o g d.us A2 c2 _ (by omega) hf2 (S62.rd0 hr2)) fun p57 a72 X72 h72 S72 => ?_
   refine sl_append (z := .agg #[.int .i64 0, .int .i64 0, .int .i64 0, .int .i64 0]) (sz := 4) (bytes := 32) h72 (wn rfl) ⟨rfl, rfl⟩ rfl Tryz.underlying22 (by kernel_rfl) rfl rfl (h72.ev rfl) (h72.ev rfl) S72 (i := 3) rfl (S72.rdOf (i := 0) rfl) (acesF_len _) (aceV_one _) ⟨(by omega), by decide⟩ fun A58 c58 a73 X73 h73 S73 => ?_
   refine ma h73 fun a74 h74 => ?_
   rw [Nat.zero_add] at h74
   rw [Nat.zero_add, List.nil_append] at S73
   refine st_nil (go_then (st_seq (st_seq (st_reg ?_))))
   refine mv h74 fun a75 h75 => ?_
   refine sv h75 (ex_len Tryz.underlying22 (h75.ev rfl)) fun a76 h76 => ?_
   refine sv h76 (ex_gtr (h76.ev rfl) (h76.ev rfl)) fun a77 h77 => ?_
   refine mv h77 fun a78 h78 => ?_
   apply sl_or h78 S73 62 rfl 4 66
   case hf =>
    intro gc62
    refine sy h78 (ex_move (h78.ev rfl)) fun a79 h79 => ?_
    refine sy h79 (ex_len Tryz.underlying22 (h79.ev rfl)) fun a80 h80 => ?_
    refine sy h80 (ex_gtr (h80.ev rfl) (h80.ev rfl)) fun a81 h81 => ?_
    refine sv h81 (ex_pick_f (h81.ev rfl) gc62 (h81.ev rfl)) fun a82 h82 => ?_
    exact st_nil ⟨h82.mid (m := [(_, _), (_, _), (_, _)]) rfl, S73⟩
   case ht =>
    intro gc62
    refine no h78 fun a83 h83 => ?_
    refine no h83 fun a84 h84 => ?_
    refine no h84 fun a85 h85 => ?_
    refine sv h85 (ex_pick_t (h85.ev rfl) gc62 (h85.ev rfl)) fun a86 h86 => ?_
    exact st_nil ⟨h86.mid (m := [(_, _), (_, _), (_, _)]) rfl, S73⟩
   case h =>
    rintro a87 X87 ⟨h87, S87⟩
    refine st_nil (go_then ?_)
    refine st_if (h87.ev rfl) (fun hc1 => ?_) (fun hc1 => ?_)
    ·
     have h9 : E = false := by rw [hEd]; simp at hc1 ⊢; omega
     have e1 : D = zD := by rw [hDd, if_neg (by rw [h9]; decide)]
     refine st_seq (st_reg ?_)
     refine sv h87 (ex_build (zs := [.int .i64 0, .int .i64 0, .bool false, .bool false, .slice none 0 0, .slice none 0 0]) (pl := [(0, 1), (1, 1), (2, 1), (3, 1), (4, 1), (5, 1)]) (by kernel_rfl) (by kernel_rfl) (h87.evs2 rfl) rfl rfl) fun a88 h88 => ?_
     refine sw h88 S87 5 fun X89 S89 => ?_
     refine ma h88 fun a90 h90 => ?_
     refine st_nil (go_then (wp_ret (ret_then ?_)))
     refine finct h90 rfl rfl rfl S89 (i := 5) rfl (by kernel_rfl) (by kernel_rfl) ?_
     rw [e1, h9]
     exact ⟨((none, 0), none, 0), rfl, (S89.sub (List.nil_sublist _)).nil2 _ _⟩
    ·
     have h9 : E = true := by rw [hEd]; simp at hc1 ⊢; omega
     have e1 : D = ⟨o, g, false, d.he, canL (inhL dir o g d.es), canL (inhL dir o g d.us)⟩ := by rw [hDd, if_pos h9]
     refine wp_skip (go_then (st_seq (st_reg ?_)))
     refine mv h87 fun a91 h91 => ?_
     refine sl_more h91 (wn rfl) (ex_call (fun _ _ => by kernel_rfl) (h91.evs rfl) rfl) rfl rfl S87 (refCanon_any (inhL dir o g d.es) A48 c48 _ (by omega) hq1 (S87.rdOf (i := 2) rfl)) fun p69 a92 X92 h92 S92 => ?_
     refine mv h92 fun a93 h93 => ?_
     refine sl_more h93 (wn rfl) (ex_call (fun _ _ => by kernel_rfl) (h93.evs rfl) rfl) rfl rfl S92 (refCanon_any (inhL dir o g d.us) A58 c58 _ (by omega) hq2 (S92.rdOf (i := 4) rfl)) fun p71 a94 X94 h94 S94 => ?_
     refine vf h94 4 4 fun a95 h95 => ?_
     refine sl_store h95 (wn rfl) ⟨rfl, rfl⟩ (h95.ev rfl) (h95.ev rfl) rfl (by kernel_rfl) S94 (i := 6) rfl rfl rfl fun X96 S96 => ?_
     refine vf h95 5 5 fun a97 h97 => ?_
     refine sl_store h97 (wn rfl) ⟨rfl, rfl⟩ (h97.ev rfl) (h97.ev rfl) rfl (by kernel_rfl) S96 (i := 6) rfl rfl rfl fun X98 S98 => ?_
     refine nsr ?_
     refine sv h97 (ex_loads (by kernel_rfl) (by kernel_rfl) (h97.ev rfl) (S98.cellsAll (i := 6) rfl)) fun a99 h99 => ?_
     refine sw h99 S98 7 fun X100 S100 => ?_
     refine ma h99 fun a101 h101 => ?_
     refine st_nil (go_then (wp_ret ?_))
     refine finct h101 rfl rfl rfl S100 (i := 7) rfl (by kernel_rfl) (by kernel_rfl) ?_
     rw [e1, h9]
     refine ⟨(p69, p71), ?_, ?_⟩
     · show _ = Ending.returned (.tuple #[.agg #[.int .i64 o, .int .i64 g, .bool false, .bool d.he, .slice p69.1 (canL (inhL dir o g d.es)).length p69.2, .slice p71.1 (canL (inhL dir o g d.us)).length p71.2], .bool true])
       rfl
     · exact St.rows2 (i := 1) (j := 0) S100 rfl rfl
  case hB => kernel_rfl
  case hst => rfl
theorem Created_any (d : DscP) (t : TokP) (dir : Bool) (A1 A2 A : Option Addr) (c1 c2 c : Nat) (w : World) (hd : DT d t A1 A2 A w) (hz1 : dscE d = 0) (hz2 : tokE t = 0) :
 Calls Tryz.prog 48 #[dscV d A1 A2 c1 c2, tokV t A c, .bool dir] w fun e w' => ∃ i : (Option Addr × Nat) × Option Addr × Nat, e = .returned (.tuple #[dscV (rchO dir t.u (grpT t) d) i.1.1 i.2.1 i.1.2 i.2.2, .bool (rchB dir t.u (grpT t) d)]) ∧ St [] w w' [row2E 111 4 (.slice i.1.1 (rchO dir t.u (grpT t) d).es.length i.1.2) (rchO dir t.u (grpT t) d).es.length (acesV (rchO dir t.u (grpT t) d).es) (.slice i.2.1 (rchO dir t.u (grpT t) d).us.length i.2.2) (rchO dir t.u (grpT t) d).us.length (acesV (rchO dir t.u (grpT t) d).us)] := by
 obtain ⟨k1, k2, k3, k4⟩ := dscE_ok hz1
 obtain ⟨ho, hg, hw⟩ := wnD_ok hz2
 obtain ⟨G, hG⟩ : ∃ G, G = grpT t := ⟨_, rfl⟩
 rw [← hG] at hg hw ⊢
 refine st_enter (N := 29) Tryz.func48 rfl rfl rfl (fun a0 h0 => ?_)
 have S0 := St.init w
 refine st_seq (st_reg ?_)
 refine nb h0 rfl rfl S0 fun b3 a1 X1 gb3 h1 S1 => ?_
 refine nb h1 rfl rfl S1 fun b4 a2 X2 gb4 h2 S2 => ?_
 refine na (.agg #[.int .i64 0, .int .i64 0, .bool false, .bool false, .slice none 0 0, .slice none 0 0]) h2 rfl S2 fun b6 a3 X3 gb6 h3 S3 => ?_
 refine ma h3 fun a4 h4 => ?_
 refine nsr ?_
 refine vf h4 0 0 fun a5 h5 => ?_
 refine vl h5 S3 1 fun a6 h6 => ?_
 refine vf h6 0 0 fun a7 h7 => ?_
 refine vl h7 S3 1 fun a8 h8 => ?_
 refine sv h8 (ex_build (zs := [.int .i64 0, .int .i64 0, .bool false, .bool false, .slice none 0 0, .slice none 0 0]) (pl := [(0, 1), (1, 1), (2, 1), (3, 1), (4, 1), (5, 1)]) (by kernel_rfl) (by kernel_rfl) (h8.evs2 rfl) rfl rfl) fun a9 h9 => ?_
 refine na (.agg #[.int .i64 0, .int .i64 0, .bool false, .bool false, .slice none 0 0, .slice none 0 0]) h9 rfl S3 fun b8 a10 X10 gb8 h10 S10 => ?_
 refine sw h10 S10 0 fun X11 S11 => ?_
 refine st_nil (go_then (st_seq (st_seq (st_reg ?_))))
 refine vf h10 1 1 fun a12 h12 => ?_
 refine vl h12 S11 2 fun a13 h13 => ?_
 refine sv h13 (ex_len Tryz.underlying25 (h13.ev rfl)) fun a14 h14 => ?_
 refine sv h14 (ex_gtr (h14.ev rfl) (h14.ev rfl)) fun a15 h15 => ?_
 refine st_nil (go_then ?_)
 refine st_if (h15.ev rfl) (fun hc0 => ?_) (fun hc0 => ?_)
 ·
  have hp : 0 < t.gs.length := by have := of_decide_eq_true hc0; omega
  obtain ⟨bA, oA, hA, _, hcA⟩ := Rd.opened (hd.below S11.below).r3 (by simpa using hp)
  have hg0 : G = t.gs[0] := by rw [hG]; unfold grpT; rw [if_pos hp, List.getD_eq_getElem?_getD, List.getElem?_eq_getElem hp]; rfl
  subst hA
  rw [hg0] at hg hw ⊢
  refine st_reg ?_
  refine vf h15 1 1 fun a16 h16 => ?_
  refine vl h16 S11 2 fun a17 h17 => ?_
  refine sv h17 (ex_index (i := 0) (sz := 1) Tryz.underlying25 (by kernel_rfl) (h17.ev rfl) (h17.ev rfl) (by omega) (by omega) rfl) fun a18 h18 => ?_
  refine sv h18 (lx (h18.ev rfl) (by rw [Nat.add_zero]; exact hcA 0 _ (by rw [List.getElem?_map, List.getElem?_eq_getElem hp]; rfl))) fun a19 h19 => ?_
  refine vf h19 1 1 fun a20 h20 => ?_
  refine sl_store h20 (wn rfl) ⟨rfl, rfl⟩ (h20.ev rfl) (h20.ev rfl) rfl (by kernel_rfl) S11 (i := 0) rfl rfl rfl fun X21 S21 => ?_
  refine nsr ?_
  refine sv (v := dscV d A1 A2 c1 c2) h20 (ex_loads (by kernel_rfl) (by kernel_rfl) (h20.ev rfl) (S21.cellsAll (i := 3) rfl)) fun a22 h22 => ?_
  refine sv (v := dscV (wnD t.u _) none none 0 0) h22 (ex_loads (by kernel_rfl) (by kernel_rfl) (h22.ev rfl) (S21.cellsAll (i := 0) rfl)) fun a23 h23 => ?_
  refine mv h23 fun a24 h24 => ?_
  refine sl_more h24 (wn rfl) (ex_call (fun _ _ => by kernel_rfl) (h24.evs rfl) rfl) rfl rfl S21 (rChild_any dir t.u _ d A1 A2 c1 c2 _ k1 k2 k3 k4 ho hg ((hd.below S21.below).r1) ((hd.below S21.below).r2)) fun p26 a25 X25 h25 S25 => ?_
  refine vx h25 fun a26 h26 => ?_
  refine vx h26 fun a27 h27 => ?_
  refine sw h27 S25 2 fun X28 S28 => ?_
  refine ma h27 fun a29 h29 => ?_
  refine st_nil (go_then (wp_ret ?_))
  refine finct h29 rfl rfl rfl S28 (i := 2) rfl (by kernel_rfl) (by kernel_rfl) ?_
  exact ⟨p26, rfl, (S28.sub (.cons_cons _ (.cons _ (.cons _ (.cons _ (.cons _ .slnil))))))⟩
 ·
  have hp : ¬ 0 < t.gs.length := by have := of_decide_eq_false hc0; omega
  have hg0 : G = t.u := by rw [hG]; unfold grpT; rw [if_neg hp]
  rw [hg0] at hg hw ⊢
  refine wp_skip (go_then (st_seq (st_reg ?_)))
  refine sv (v := dscV d A1 A2 c1 c2) h15 (ex_loads (by kernel_rfl) (by kernel_rfl) (h15.ev rfl) (S11.cellsAll (i := 3) rfl)) fun a30 h30 => ?_
  refine sv (v := dscV (wnD t.u _) none none 0 0) h30 (ex_loads (by kernel_rfl) (by kernel_rfl) (h30.ev rfl) (S11.cellsAll (i := 0) rfl)) fun a31 h31 => ?_
  refine mv h31 fun a32 h32 => ?_
  refine sl_more h32 (wn rfl) (ex_call (fun _ _ => by kernel_rfl) (h32.evs rfl) rfl) rfl rfl S11 (rChild_any dir t.u _ d A1 A2 c1 c2 _ k1 k2 k3 k4 ho hg ((hd.below S11.below).r1) ((hd.below S11.below).r2)) fun p26 a33 X33 h33 S33 => ?_
  refine vx h33 fun a34 h34 => ?_
  refine vx h34 fun a35 h35 => ?_
  refine sw h35 S33 2 fun X36 S36 => ?_
  refine ma h35 fun a37 h37 => ?_
  refine st_nil (go_then (wp_ret ?_))
  refine finct h37 rfl rfl rfl S36 (i := 2) rfl (by kernel_rfl) (by kernel_rfl) ?_
  exact ⟨p26, rfl, (S36.sub (.cons_cons _ (.cons _ (.cons _ (.cons _ (.cons _ .slnil))))))⟩
end Go.Proofs.YtanicpgmbhfipaaGreatDoor
