/-
  Chapter 17: the law AccessSimplifies: its walk.
-/
import Derived.Test.YtanicpgmbhfipaaGreatDoorAcI
import Derived.Test.YtanicpgmbhfipaaGreatDoorSplD
namespace Go.Proofs.YtanicpgmbhfipaaGreatDoor
set_option linter.unusedVariables false
set_option linter.unusedSimpArgs false
set_option maxRecDepth 4000
open Go.RowKit Go.Sort Go.Shelf
def TelJ {ι : Type} (φ : ι → Value) (R : ι → World → Prop) (v : Value) (X : World) : Prop := ∃ i, v = φ i ∧ R i X
theorem TelJ.stable {ι : Type} {φ : ι → Value} {R : ι → World → Prop} (hR : ∀ i X X', R i X → Below X.heap.size X X' → R i X') (v : Value) (X X' : World) (h : TelJ φ R v X) (hb : Below X.heap.size X X') : TelJ φ R v X' := by
 obtain ⟨i, h1, h2⟩ := h
 exact ⟨i, h1, hR i X X' h2 hb⟩
theorem lv_telj {ι : Type} {φ : ι → Value} {R : ι → World → Prop} {X : World} {f : FuncId} {args : Array Value} {r : Result Next} (hx : r = .ok (.enter f args) X) (hc : Calls Tryz.prog f args X fun e X' => ∃ i, e = .returned (φ i) ∧ R i X' ∧ Below X.heap.size X X') : LeavesR Tryz.prog (TelJ φ R) X r := by
 subst hx
 exact ⟨rfl, hc.mono fun e X' ⟨i, he, hi, hX⟩ => ⟨_, he, hX, i, rfl, hi⟩⟩
def smV (d : DscP) (i : (Option Addr × Nat) × Option Addr × Nat) : Value := dscV (simD d) i.1.1 i.2.1 i.1.2 i.2.2
def RdJ (xs ys : List AceP) (i : (Option Addr × Nat) × Option Addr × Nat) (X : World) : Prop := Rd X X.heap.size i.1.1 (acesV xs) ∧ Rd X X.heap.size i.2.1 (acesV ys)
theorem RdJ.grow {xs ys : List AceP} (i : (Option Addr × Nat) × Option Addr × Nat) (X X' : World) (h : RdJ xs ys i X) (hb : Below X.heap.size X X') : RdJ xs ys i X' := ⟨h.1.below' hb, h.2.below' hb⟩
def cpV (d : DscP) (i : (Option Addr × Nat) × Option Addr × Nat) : Value := dscV d i.1.1 i.2.1 i.1.2 i.2.2
def OwJ (d : DscP) (B : Nat) (i : (Option Addr × Nat) × Option Addr × Nat) (X : World) : Prop := X.ownsRow B 111 4 (.slice i.1.1 d.es.length i.1.2) d.es.length (acesV d.es) ∧ X.ownsRow B 111 4 (.slice i.2.1 d.us.length i.2.2) d.us.length (acesV d.us)
theorem OwJ.grow {d : DscP} {B : Nat} (i : (Option Addr × Nat) × Option Addr × Nat) (X X' : World) (h : OwJ d B i X) (hb : Below X.heap.size X X') : OwJ d B i X' := ⟨ownsRow_below h.1 hb, ownsRow_below h.2 hb⟩
theorem copy_ow (d : DscP) (A1 A2 : Option Addr) (c1 c2 B : Nat) (w : World) (hB : B ≤ w.heap.size) (h1 : d.es.length ≤ 500) (h2 : d.us.length ≤ 500) (hr1 : Rd w w.heap.size A1 (acesV d.es)) (hr2 : Rd w w.heap.size A2 (acesV d.us)) :
 Calls Tryz.prog 12 #[dscV d A1 A2 c1 c2] w fun e w' => ∃ i, e = .returned (cpV d i) ∧ OwJ d B i w' ∧ Below w.heap.size w w' := by
 refine (CopyDsc_own d A1 A2 c1 c2 w h1 h2 hr1 hr2).mono ?_
 rintro e w' ⟨B1, B2, k1, k2, rfl, g1, g2, hb⟩
 exact ⟨((B1, k1), B2, k2), rfl, ⟨ownsRow_mono g1 hB, ownsRow_mono g2 hB⟩, hb⟩
def row2E (T : TypeId) (sz : Nat) (v1 : Value) (n1 : Nat) (xs1 : List Value) (v2 : Value) (n2 : Nat) (xs2 : List Value) : Ent := .inv (fun b => v1.ownBlock = some b ∨ v2.ownBlock = some b) (fun X => X.ownsRow 0 T sz v1 n1 xs1 ∧ X.ownsRow 0 T sz v2 n2 xs2)
 (fun X X' ⟨h1, h2⟩ hb => ⟨Ent.ok_of (e := .row v1 n1 T sz xs1) h1 (fun b h => hb b (.inl h)), Ent.ok_of (e := .row v2 n2 T sz xs2) h2 (fun b h => hb b (.inr h))⟩)
theorem St.row2 {M : List Nat} {w X : World} {L : List Ent} {i n1 n2 c1 c2 sz : Nat} {T : TypeId} {A1 A2 : Option Addr} {xs1 xs2 : List Value} (h : St M w X L) (hi : L[i]? = some (row2E T sz (.slice A1 n1 c1) n1 xs1 (.slice A2 n2 c2) n2 xs2)) : Rd X X.heap.size A1 xs1 ∧ Rd X X.heap.size A2 xs2 := by
 obtain ⟨h1, h2⟩ : X.ownsRow 0 T sz (.slice A1 n1 c1) n1 xs1 ∧ X.ownsRow 0 T sz (.slice A2 n2 c2) n2 xs2 := h.at_ hi
 exact ⟨Rd.of_own h1, Rd.of_own h2⟩
theorem St.add3 {M : List Nat} {w X0 X : World} {L : List Ent} {e1 e2 e3 : Ent} (h0 : St M w X0 L) (h : St M w X (e2 :: e1 :: L)) (hok : e3.ok X) (hd : ∀ b, e3.dom b → X0.heap.size ≤ b ∧ b < X.heap.size) (hne : ∀ b, e3.dom b → ¬ e2.dom b) (hne1 : ∀ b, e3.dom b → ¬ e1.dom b) : St M w X (e3 :: e2 :: e1 :: L) := by
 refine ⟨h.os, h.tape, h.output, h.size, h.block, fun f hf => ?_, fun f hf b hb => ?_, List.pairwise_cons.2 ⟨fun f hf b hb hfb => ?_, h.sep⟩⟩
 · rcases List.mem_cons.1 hf with rfl | hf
   · exact hok
   · exact h.ok f hf
 · rcases List.mem_cons.1 hf with rfl | hf
   · exact ⟨.inl (Nat.le_trans h0.size (hd b hb).1), (hd b hb).2⟩
   · exact h.new f hf b hb
 · rcases List.mem_cons.1 hf with rfl | hf
   · exact hne b hb hfb
   · rcases List.mem_cons.1 hf with rfl | hf
     · exact hne1 b hb hfb
     · have h1 := (h0.new f hf b hfb).2
       have h2 := (hd b hb).1
       omega
theorem St.dsc2 {M : List Nat} {w0 w X : World} {L : List Ent} {b b' n1 n2 sz : Nat} {cs cs' : Array Value} {T T1 : TypeId} {v1 v2 : Value} {xs1 xs2 : List Value} (h : St M w0 w L) (hX : Below w.heap.size w X) (h1 : X.ownsRow w.heap.size T1 sz v1 n1 xs1) (h2 : X.ownsRow w.heap.size T1 sz v2 n2 xs2) (hb : Box X b cs T) (hB : w.heap.size ≤ b) (hb' : Box X b' cs' T) (hB' : w.heap.size ≤ b') (hne : b ≠ b') (hT : T1 ≠ T) :
 St M w0 X (.box b' cs' T :: .box b cs T :: row2E T1 sz v1 n1 xs1 v2 n2 xs2 :: L) :=
 St.add3 h (St.add2 h (h.add hX (e := row2E T1 sz v1 n1 xs1 v2 n2 xs2) ⟨ownsRow_mono h1 (Nat.zero_le _), ownsRow_mono h2 (Nat.zero_le _)⟩ (fun k hk => hk.elim (fun hk => h1.lt k hk) (fun hk => h2.lt k hk))) (e2 := .box _ _ _) hb (fun k hk => by cases hk; exact ⟨hB, hb.lt⟩) (fun k hk hr => hr.elim (fun hr => ne_box_row h1 hb hT k hk hr) (fun hr => ne_box_row h2 hb hT k hk hr)))
  (e3 := .box _ _ _) hb' (fun k hk => by cases hk; exact ⟨hB', hb'.lt⟩) (fun k hk hr => hne ((show k = b from hr).symm.trans hk)) (fun k hk hr => hr.elim (fun hr => ne_box_row h1 hb' hT k hk hr) (fun hr => ne_box_row h2 hb' hT k hk hr))
theorem SameD_eq (a b : DscP) (h : a = b) (A1 A2 B1 B2 : Option Addr) (a1 a2 b1 b2 : Nat) (w : World) (hl1 : a.es.length ≤ 500) (hl2 : a.us.length ≤ 500) (hr1 : Rd w w.heap.size A1 (acesV a.es)) (hr2 : Rd w w.heap.size A2 (acesV a.us)) (hs1 : Rd w w.heap.size B1 (acesV b.es)) (hs2 : Rd w w.heap.size B2 (acesV b.us)) :
 Calls Tryz.prog 38 #[dscV a A1 A2 a1 a2, dscV b B1 B2 b1 b2] w fun e w' => e = .returned (.bool true) ∧ Below w.heap.size w w' := by
 subst h
 exact SameD_any a A1 A2 B1 B2 a1 a2 b1 b2 w hl1 hl2 hr1 hr2 hs1 hs2
theorem Dif0_any (a b : DscP) (who : List Int) (A1 A2 B1 B2 A : Option Addr) (a1 a2 b1 b2 c : Nat) (w : World) (h : DD a b who A1 A2 B1 B2 A w) (hza : dscE a = 0) (hzb : dscE b = 0) (hw5 : who.length ≤ 5) (hr : ∀ t, rgtP a t = rgtP b t) :
 Calls Tryz.prog 31 #[dscV a A1 A2 a1 a2, dscV b B1 B2 b1 b2, .slice A who.length c] w fun e w' => ∃ i : (Option Addr × Nat) × Nat × Nat, e = .returned (.tuple #[tokV noT i.1.1 i.1.2, .bool false]) ∧ St [] w w' [rd2E i.2.1 i.2.2 none none [] []] := by
 refine (Difference_any a b who A1 A2 B1 B2 A a1 a2 b1 b2 c w h hza hzb hw5).mono ?_
 rintro e w' ⟨A', c', rfl, ho, hb⟩
 rw [dif_none hr]
 exact ⟨((A', c'), w.heap.size, w'.heap.size), rfl, (St.init w).add hb (e := rd2E w.heap.size w'.heap.size none none [] []) ⟨fun j u hj => by simp at hj, fun j u hj => by simp at hj⟩ (fun b hb' => hb')⟩
theorem acsE_can {l : List AceP} (h : acsE l = 0) : acsE (canL l) = 0 := by
 obtain ⟨h1, h2⟩ := acsE_zero h
 exact acsE_ok (by rw [canL_len]; exact h1) (fun a ha => h2 a ((can_perm l).mem_iff.1 ha))
theorem smO_twice {d : DscP} (h : dscE d = 0) : smO (smO d) = smO d := by
 obtain ⟨_, _, _, _, _, hok, _⟩ := dscE_zero h
 have e1 : smO d = simD d := if_pos h
 rw [e1]
 have e2 : smO (simD d) = simD (simD d) := if_pos (simD_ok h)
 rw [e2]
 unfold simD
 rw [simL_twice (fun a ha => by obtain ⟨⟨_, _, x, y⟩, _⟩ := aceO_of (hok a ha).1; exact ⟨x, y⟩)]
set_option maxHeartbeats 2000000 in
theorem wAccessSimplifies (d : DscP) (A1 A2 : Option Addr) (c1 c2 : Nat) (AW : Option Addr) (cw : Nat) (who : List Int) (t : TokP) (A : Option Addr) (c : Nat) (w : World) (hr1 : Rd w w.heap.size A1 (acesV d.es)) (hr2 : Rd w w.heap.size A2 (acesV d.us)) (hwl : who.length ≤ maxLen) (hrw : Rd w w.heap.size AW (who.map (.int .i64))) (hr3 : Rd w w.heap.size A (t.gs.map (.int .i64))) (hg : GrT w) :
 Calls Tryz.prog 7 #[dscV d A1 A2 c1 c2, .slice AW who.length cw, tokV t A c] w fun e w' => e = .returned (.bool true) ∧ Below w.heap.size w w' := by
 unfold maxLen at hwl
 refine st_enter (N := 138) Tryz.func7 rfl rfl rfl (fun a0 h0 => ?_)
 have S0 := St.init w
 refine st_seq (st_reg ?_)
 refine nb h0 rfl rfl S0 fun b3 a1 X1 gb3 h1 S1 => ?_
 refine nb h1 rfl rfl S1 fun b5 a2 X2 gb5 h2 S2 => ?_
 refine ma h2 fun a3 h3 => ?_
 refine st_nil (go_then (st_seq (st_seq (st_reg ?_))))
 refine sl_bel h3 (wn rfl) (ex_call (fun _ _ => by kernel_rfl) (h3.evs rfl) rfl) rfl rfl S2 (awake17_any _ (hg.below S2.below)) fun a4 X4 h4 S4 => ?_
 refine sv h4 (ex_not (h4.ev rfl)) fun a5 h5 => ?_
 refine st_nil (go_then ?_)
 refine st_if_f (h5.ev rfl) (rfl) ?_
 refine wp_skip (go_then (st_seq (st_seq (st_reg ?_))))
 refine sv (v := dscV d A1 A2 c1 c2) h5 (ex_loads (by kernel_rfl) (by kernel_rfl) (h5.ev rfl) (S4.cellsAll (i := 1) rfl)) fun a6 h6 => ?_
 refine sv (v := tokV t A c) h6 (ex_loads (by kernel_rfl) (by kernel_rfl) (h6.ev rfl) (S4.cellsAll (i := 0) rfl)) fun a7 h7 => ?_
 refine sl_bel h7 (wn rfl) (ex_call (fun _ _ => by kernel_rfl) (h7.evs rfl) rfl) rfl rfl S4 (few_any d t A1 A2 A c1 c2 c _) fun a8 X8 h8 S8 => ?_
 refine sv h8 (ex_not (h8.ev rfl)) fun a9 h9 => ?_
 refine mv h9 fun a10 h10 => ?_
 apply sl_or h10 S8 28 rfl 4 32
 case hf =>
  intro gc28
  refine sy h10 (ex_move (h10.ev rfl)) fun a11 h11 => ?_
  refine sy h11 (ex_len Tryz.underlying25 (h11.ev rfl)) fun a12 h12 => ?_
  refine sy h12 (ex_gtr (h12.ev rfl) (h12.ev rfl)) fun a13 h13 => ?_
  refine sv h13 (ex_pick_f (h13.ev rfl) gc28 (h13.ev rfl)) fun a14 h14 => ?_
  exact st_nil ⟨h14.mid (m := [(_, _), (_, _), (_, _)]) rfl, S8⟩
 case ht =>
  intro gc28
  refine no h10 fun a15 h15 => ?_
  refine no h15 fun a16 h16 => ?_
  refine no h16 fun a17 h17 => ?_
  refine sv h17 (ex_pick_t (h17.ev rfl) gc28 (h17.ev rfl)) fun a18 h18 => ?_
  exact st_nil ⟨h18.mid (m := [(_, _), (_, _), (_, _)]) rfl, S8⟩
 case h =>
  rintro a19 X19 ⟨h19, S19⟩
  refine mv h19 fun a20 h20 => ?_
  apply sl_or h20 S19 33 rfl 4 37
  case hf =>
   intro gc33
   have hw9 : who.length ≤ 5 := by have := (Bool.or_eq_false_iff.1 gc33).2; have := of_decide_eq_false this; omega
   refine sy h20 (ex_move (h20.ev rfl)) fun a21 h21 => ?_
   refine sl_bel h21 (wanted_yes h21 _ rfl rfl rfl gc33) (ex_call (fun _ _ => by kernel_rfl) (h21.evs rfl) rfl) rfl rfl S19 (WhoErr_any AW cw who _ (by omega) (S19.rd0 hrw)) fun a22 X22 h22 S22 => ?_
   refine sy h22 (ex_neq (h22.ev rfl) (h22.ev rfl)) fun a23 h23 => ?_
   refine sv h23 (ex_pick_f (h23.ev rfl) gc33 (h23.ev rfl)) fun a24 h24 => ?_
   exact st_nil ⟨h24.mid (m := [(_, _), (_, _), (_, _)]) rfl, S22⟩
  case ht =>
   intro gc33
   refine no h20 fun a25 h25 => ?_
   refine no h25 fun a26 h26 => ?_
   refine no h26 fun a27 h27 => ?_
   refine sv h27 (ex_pick_t (h27.ev rfl) gc33 (h27.ev rfl)) fun a28 h28 => ?_
   exact st_nil ⟨h28.mid (m := [(_, _), (_, _), (_, _)]) rfl, S19⟩
  case h =>
   rintro a29 X29 ⟨h29, S29⟩
   refine st_nil (go_then ?_)
   refine st_if (h29.ev rfl) (fun hc1 => ?_) (fun hc1 => ?_)
   ·
    refine st_seq (st_reg ?_)
    refine ma h29 fun a30 h30 => ?_
    refine st_nil (go_then (wp_ret (ret_then ?_)))
    refine fin1 h30 rfl rfl ?_
    exact ⟨rfl, S29.below⟩
   ·
    obtain ⟨u1, u3⟩ := Bool.or_eq_false_iff.1 hc1
    obtain ⟨u1, u2⟩ := Bool.or_eq_false_iff.1 u1
    have hfw : fewB d t = true := by simpa using u1
    have hw5 : who.length ≤ 5 := by have := of_decide_eq_false u2; omega
    have hln : d.es.length ≤ 20 ∧ d.us.length ≤ 20 ∧ t.gs.length ≤ 18 := by
     unfold fewB fewD at hfw
     simp only [Bool.and_eq_true, decide_eq_true_eq] at hfw
     exact ⟨hfw.1.1, hfw.1.2, hfw.2⟩
    obtain ⟨n1, n2, n3⟩ := hln
    have hl1 : d.es.length ≤ 500 := by omega
    have hl2 : d.us.length ≤ 500 := by omega
    refine wp_skip (go_then (st_seq (st_reg ?_)))
    refine sv (v := dscV d A1 A2 c1 c2) h29 (ex_loads (by kernel_rfl) (by kernel_rfl) (h29.ev rfl) (S29.cellsAll (i := 1) rfl)) fun a31 h31 => ?_
    refine sl_more h31 (wn rfl) (ex_call (fun _ _ => by kernel_rfl) (h31.evs rfl) rfl) rfl rfl S29 (CopyDsc_rd d A1 A2 c1 c2 _ hl1 hl2 (S29.rd0 hr1) (S29.rd0 hr2)) fun p40 a32 X32 h32 S32 => ?_
    refine sl_more h32 (wn rfl) (ex_call (fun _ _ => by kernel_rfl) (h32.evs rfl) rfl) rfl rfl S32 (SimplifiedOf_any d p40.1.1 p40.2.1.1 p40.1.2 p40.2.1.2 _ hl1 hl2 (S32.rd2 (i := 0) rfl).1 (S32.rd2 (i := 0) rfl).2) fun p41 a33 X33 h33 S33 => ?_
    refine mv h33 fun a34 h34 => ?_
    refine sv (v := dscV (smO d) p41.1.1 p41.2.1 p41.1.2 p41.2.2) h34 (ex_extract (h34.ev rfl) rfl) fun a35 h35 => ?_
    refine vx h35 fun a36 h36 => ?_
    refine na (.agg #[.int .i64 0, .int .i64 0, .bool false, .bool false, .slice none 0 0, .slice none 0 0]) h36 rfl S33 fun b7 a37 X37 gb7 h37 S37 => ?_
    refine sw h37 S37 0 fun X38 S38 => ?_
    refine ma h37 fun a39 h39 => ?_
    refine st_nil (go_then (st_seq (st_seq (st_reg ?_))))
    refine sv (v := dscV d A1 A2 c1 c2) h39 (ex_loads (by kernel_rfl) (by kernel_rfl) (h39.ev rfl) (S38.cellsAll (i := 5) rfl)) fun a40 h40 => ?_
    refine sl_bel h40 (wn rfl) (ex_call (fun _ _ => by kernel_rfl) (h40.evs rfl) rfl) rfl rfl S38 (refDescErr_any d A1 A2 c1 c2 _ hl1 hl2 (S38.rd0 hr1) (S38.rd0 hr2)) fun a41 X41 h41 S41 => ?_
    refine ma h41 fun a42 h42 => ?_
    refine nsr ?_
    refine mv h42 fun a43 h43 => ?_
    refine sv h43 (ex_neq (h43.ev rfl) (h43.ev rfl)) fun a44 h44 => ?_
    refine st_nil (go_then ?_)
    refine st_if (h44.ev rfl) (fun hc2 => ?_) (fun hc2 => ?_)
    ·
     have hne : dscE d ≠ 0 := by simpa using hc2
     have e1 : smO d = zD := if_neg hne
     have hs1 : (smO d).es.length ≤ 500 := by rw [e1]; decide
     have hs2 : (smO d).us.length ≤ 500 := by rw [e1]; decide
     refine st_seq (st_reg ?_)
     refine mvv h44 fun a46 h46 => ?_
     refine sv h46 (ex_eql (h46.ev rfl) (h46.ev rfl)) fun a47 h47 => ?_
     refine mv h47 fun a48 h48 => ?_
     refine sl_val (v := dscV (smO d) p41.1.1 p41.2.1 p41.1.2 p41.2.2) h48 (wanted_yes h48 _ rfl rfl rfl ((by simp))) (ex_loads (by kernel_rfl) (by kernel_rfl) (h48.ev rfl) (S41.cellsAll (i := 0) rfl)) rfl rfl fun a49 h49 => ?_
     refine sl_val (v := dscV zD none none 0 0) h49 (wanted_yes h49 _ rfl rfl rfl ((by simp))) (ex_build (zs := [.int .i64 0, .int .i64 0, .bool false, .bool false, .slice none 0 0, .slice none 0 0]) (pl := [(0, 1), (1, 1), (2, 1), (3, 1), (4, 1), (5, 1)]) (by kernel_rfl) (by kernel_rfl) (h49.evs2 rfl) rfl rfl) rfl rfl fun a50 h50 => ?_
     refine sl_bel h50 (wanted_yes h50 _ rfl rfl rfl ((by simp))) (ex_call (fun _ _ => by kernel_rfl) (h50.evs rfl) rfl) rfl rfl S41 (SameD_eq (smO d) zD e1 p41.1.1 p41.2.1 none none p41.1.2 p41.2.2 0 0 _ hs1 hs2 (S41.rdOf (i := 1) rfl) (S41.rdOf (i := 2) rfl) (Rd.nil _ _ _) (Rd.nil _ _ _)) fun a51 X51 h51 S51 => ?_
     refine sv h51 (ex_pick_t (h51.ev rfl) ((by simp)) (h51.ev rfl)) fun a52 h52 => ?_
     refine ma h52 fun a53 h53 => ?_
     refine st_nil (go_then (wp_ret (ret_then ?_)))
     refine fin1 h53 rfl rfl ?_
     exact ⟨rfl, S51.below⟩
    ·
     have hz : dscE d = 0 := by simpa using hc2
     have e1 : smO d = simD d := if_pos hz
     have hz1 : dscE (smO d) = 0 := by rw [e1]; exact simD_ok hz
     obtain ⟨_, _, hx1, hx2, _, hok, _⟩ := dscE_zero hz
     obtain ⟨_, _, hy1, hy2, _, _, _⟩ := dscE_zero hz1
     have hs1 : (smO d).es.length ≤ 500 := by omega
     have hs2 : (smO d).us.length ≤ 500 := by omega
     have e2 := smO_twice hz
     have hmo : ∀ a ∈ d.es, mOk a := fun a ha => by obtain ⟨⟨_, _, x, y⟩, _⟩ := aceO_of (hok a ha).1; exact ⟨x, y⟩
     have hrg1 : ∀ t, rgtP d t = rgtP (smO d) t := fun t => by rw [e1]; exact (rgt_sim hmo t).symm
     have hac : acsE d.es = 0 := acsE_ok hx1 (fun a ha => (hok a ha).1)
     have ec : cnO d.es = canL d.es := if_pos hac
     have hac2 : acsE (cnO d.es) = 0 := by rw [ec]; exact acsE_can hac
     have em : mgO (cnO d.es) = mrgL (canL d.es) := by rw [ec]; exact if_pos (acsE_can hac)
     have hmk := mrg_ok hz (can_perm d.es) (can_srt d.es)
     have hzM : dscE { d with es := mgO (cnO d.es) } = 0 := by rw [em]; exact hmk.1
     have hzC : dscE { d with es := cnO d.es } = 0 := by rw [ec]; exact hmk.2
     have hrg2 : ∀ t, rgtP { d with es := cnO d.es } t = rgtP { d with es := mgO (cnO d.es) } t := fun t => by
      rw [em, ec]
      exact rgt_mrg (can_srt d.es) (fun a ha => hok a ((can_perm d.es).mem_iff.1 ha)) t
     have hlC : (cnO d.es).length ≤ 500 := by rw [ec, canL_len]; omega
     have hlM : (mgO (cnO d.es)).length ≤ 500 := by have := mrgL_len (canL d.es); rw [em]; rw [canL_len] at this; omega
     refine wp_skip (go_then (st_seq (st_seq ?_)))
     apply dr_flowMG h44 (fun _ => False) [] [] [false, false, false, false, false, true] [⟨5, [], fun _ => TelJ (smV d) (RdJ (simL d.es) d.us)⟩] (by kernel_rfl) all0
     case h =>
      refine qv h44 (fun X hX => ex_move (h44.ev rfl)) fun a54 h54 => ?_
      refine qv h54 (fun X hX => ex_neq (h54.ev rfl) (h54.ev rfl)) fun a55 h55 => ?_
      refine qv h55 (fun X hX => ex_move (h55.ev rfl)) fun a56 h56 => ?_
      refine sq_val (v := dscV (smO d) p41.1.1 p41.2.1 p41.1.2 p41.2.2) h56 (wanted_yes h56 _ rfl rfl rfl ((by rw [hz]; rfl))) rfl rfl (fun X hX => (ex_loads (by kernel_rfl) (by kernel_rfl) (h56.ev rfl) ((S41.grow (Grw.below hX)).cellsAll (i := 0) rfl))) fun a57 h57 => ?_
      refine sq_val (v := dscV d A1 A2 c1 c2) h57 (wanted_yes h57 _ rfl rfl rfl ((by rw [hz]; rfl))) rfl rfl (fun X hX => (ex_loads (by kernel_rfl) (by kernel_rfl) (h57.ev rfl) ((S41.grow (Grw.below hX)).cellsAll (i := 5) rfl))) fun a58 h58 => ?_
      refine sq_nil ?_
      refine ⟨wanted_one rfl (wanted_yes h58 _ rfl rfl rfl (by rw [hz]; rfl)), ?_⟩
      apply nm_step (O := (fun _ => False)) (k := 5) (deps := []) (R := TelJ (smV d) (RdJ (simL d.es) d.us)) h58 rfl rfl rfl all0 (TelJ.stable RdJ.grow) all0 all0
      case hx => exact fun X hX hΦ => lv_telj (ex_call (fun _ _ => by kernel_rfl) (h58.evs rfl) rfl) (SimplRef_any d A1 A2 c1 c2 _ hz hl1 hl2 ((S41.grow (Grw.below hX)).rd0 hr1) ((S41.grow (Grw.below hX)).rd0 hr2))
      intro v61 a59 h59
      refine nm_end (O := (fun _ => False)) all0 fun X59 hX9 hΦ9 => ?_
      obtain ⟨⟨⟨A61, c61⟩, B61, e61⟩, rfl, q61, q62⟩ := told_all hΦ9 (k := 5) rfl
      have S59 := S41.grow (Grw.below hX9)
      refine sl_bel h59 (wanted_yes h59 _ rfl rfl rfl ((by rw [hz]; rfl))) (ex_call (fun _ _ => by kernel_rfl) (h59.evs rfl) rfl) rfl rfl S59 (SameD_eq (smO d) (simD d) e1 p41.1.1 p41.2.1 A61 B61 p41.1.2 p41.2.2 c61 e61 _ hs1 hs2 (S59.rdOf (i := 1) rfl) (S59.rdOf (i := 2) rfl) q61 q62) fun a60 X60 h60 S60 => ?_
      refine sl_val h60 (wanted_yes h60 _ rfl rfl rfl ((by rw [hz]; rfl))) (ex_not (h60.ev rfl)) rfl rfl fun a61 h61 => ?_
      refine sv h61 (ex_pick_f (h61.ev rfl) ((by rw [hz]; rfl)) (h61.ev rfl)) fun a62 h62 => ?_
      refine st_nil (go_then ?_)
      refine st_if_f (h62.ev rfl) (rfl) ?_
      refine wp_skip (go_then (st_seq (st_reg ?_)))
      refine sv (v := dscV (smO d) p41.1.1 p41.2.1 p41.1.2 p41.2.2) h62 (ex_loads (by kernel_rfl) (by kernel_rfl) (h62.ev rfl) (S60.cellsAll (i := 0) rfl)) fun a63 h63 => ?_
      refine sl_more h63 (wn rfl) (ex_call (fun _ _ => by kernel_rfl) (h63.evs rfl) rfl) rfl rfl S60 (CopyDsc_rd (smO d) p41.1.1 p41.2.1 p41.1.2 p41.2.2 _ hs1 hs2 (S60.rdOf (i := 1) rfl) (S60.rdOf (i := 2) rfl)) fun p67 a64 X64 h64 S64 => ?_
      refine sl_more h64 (wn rfl) (ex_call (fun _ _ => by kernel_rfl) (h64.evs rfl) rfl) rfl rfl S64 (SimplifiedOf_any (smO d) p67.1.1 p67.2.1.1 p67.1.2 p67.2.1.2 _ hs1 hs2 (S64.rd2 (i := 0) rfl).1 (S64.rd2 (i := 0) rfl).2) fun p68 a65 X65 h65 S65 => ?_
      refine mv h65 fun a66 h66 => ?_
      refine sv (v := dscV (smO (smO d)) p68.1.1 p68.2.1 p68.1.2 p68.2.2) h66 (ex_extract (h66.ev rfl) rfl) fun a67 h67 => ?_
      refine vx h67 fun a68 h68 => ?_
      refine na (.agg #[.int .i64 0, .int .i64 0, .bool false, .bool false, .slice none 0 0, .slice none 0 0]) h68 rfl S65 fun b10 a69 X69 gb10 h69 S69 => ?_
      refine sw h69 S69 0 fun X70 S70 => ?_
      refine ma h69 fun a71 h71 => ?_
      refine st_nil (go_then (st_seq (st_seq (st_reg ?_))))
      refine mv h71 fun a72 h72 => ?_
      refine sv h72 (ex_neq (h72.ev rfl) (h72.ev rfl)) fun a73 h73 => ?_
      refine mv h73 fun a74 h74 => ?_
      refine sl_val (v := dscV (smO (smO d)) p68.1.1 p68.2.1 p68.1.2 p68.2.2) h74 (wanted_yes h74 _ rfl rfl rfl ((by rw [hz1]; rfl))) (ex_loads (by kernel_rfl) (by kernel_rfl) (h74.ev rfl) (S70.cellsAll (i := 0) rfl)) rfl rfl fun a75 h75 => ?_
      refine sl_val (v := dscV (smO d) p41.1.1 p41.2.1 p41.1.2 p41.2.2) h75 (wanted_yes h75 _ rfl rfl rfl ((by rw [hz1]; rfl))) (ex_loads (by kernel_rfl) (by kernel_rfl) (h75.ev rfl) (S70.cellsAll (i := 4) rfl)) rfl rfl fun a76 h76 => ?_
      refine sl_bel h76 (wanted_yes h76 _ rfl rfl rfl ((by rw [hz1]; rfl))) (ex_call (fun _ _ => by kernel_rfl) (h76.evs rfl) rfl) rfl rfl S70 (SameD_eq (smO (smO d)) (smO d) e2 p68.1.1 p68.2.1 p41.1.1 p41.2.1 p68.1.2 p68.2.2 p41.1.2 p41.2.2 _ (by rw [e2]; exact hs1) (by rw [e2]; exact hs2) (S70.rdOf (i := 1) rfl) (S70.rdOf (i := 2) rfl) (S70.rdOf (i := 5) rfl) (S70.rdOf (i := 6) rfl)) fun a77 X77 h77 S77 => ?_
      refine sl_val h77 (wanted_yes h77 _ rfl rfl rfl ((by rw [hz1]; rfl))) (ex_not (h77.ev rfl)) rfl rfl fun a78 h78 => ?_
      refine sv h78 (ex_pick_f (h78.ev rfl) ((by rw [hz1]; rfl)) (h78.ev rfl)) fun a79 h79 => ?_
      refine st_nil (go_then ?_)
      refine st_if_f (h79.ev rfl) (rfl) ?_
      refine wp_skip (go_then (st_seq (st_seq (st_reg ?_))))
      refine sv (v := dscV d A1 A2 c1 c2) h79 (ex_loads (by kernel_rfl) (by kernel_rfl) (h79.ev rfl) (S77.cellsAll (i := 9) rfl)) fun a80 h80 => ?_
      refine sv (v := dscV (smO d) p41.1.1 p41.2.1 p41.1.2 p41.2.2) h80 (ex_loads (by kernel_rfl) (by kernel_rfl) (h80.ev rfl) (S77.cellsAll (i := 4) rfl)) fun a81 h81 => ?_
      refine mv h81 fun a82 h82 => ?_
      refine sl_more h82 (wn rfl) (ex_call (fun _ _ => by kernel_rfl) (h82.evs rfl) rfl) rfl rfl S77 (Dif0_any d (smO d) who A1 A2 p41.1.1 p41.2.1 AW c1 c2 p41.1.2 p41.2.2 cw _ ⟨hl1, hl2, hs1, hs2, by omega, S77.rd0 hr1, S77.rd0 hr2, S77.rdOf (i := 5) rfl, S77.rdOf (i := 6) rfl, S77.rd0 hrw, hg.below S77.below⟩ hz hz1 hw5 hrg1) fun p83 a83 X83 h83 S83 => ?_
      refine mv h83 fun a84 h84 => ?_
      refine sv (v := tokV noT p83.1.1 p83.1.2) h84 (ex_extract (h84.ev rfl) rfl) fun a85 h85 => ?_
      refine vx h85 fun a86 h86 => ?_
      refine na (.agg #[.int .i64 0, .slice none 0 0, .int .i64 0]) h86 rfl S83 fun b12 a87 X87 gb12 h87 S87 => ?_
      refine sw h87 S87 0 fun X88 S88 => ?_
      refine ma h87 fun a89 h89 => ?_
      refine nsr ?_
      refine mv h89 fun a90 h90 => ?_
      refine st_nil (go_then ?_)
      refine st_if_f (h90.ev rfl) (rfl) ?_
      refine wp_skip (go_then (st_seq (st_seq ?_)))
      apply dr_flow h90 [false, false, false, false, false, false, false, false, false, false, false] _ (by kernel_rfl)
      case h =>
       refine qv (v := tokV t A c) h90 (fun X hX => ex_loads (by kernel_rfl) (by kernel_rfl) (h90.ev rfl) ((S88.grow hX).cellsAll (i := 10) rfl)) fun a91 h91 => ?_
       refine sq_bel h91 (wn rfl) rfl rfl (fun X => (ex_call (fun _ _ => by kernel_rfl) (h91.evs rfl) rfl)) (fun X hX => TokenErr_any t A c _ (by omega) ((S88.grow hX).rd0 hr3)) fun a92 h92 => ?_
       refine qv h92 (fun X hX => ex_eql (h92.ev rfl) (h92.ev rfl)) fun a93 h93 => ?_
       refine qv h93 (fun X hX => ex_move (h93.ev rfl)) fun a94 h94 => ?_
       apply sq_grp h94 90 rfl 7 97
       case ht =>
        intro gc90
        have htz : tokE t = 0 := by simpa using gc90
        obtain ⟨_, _, _, ht4, ht5⟩ := tokE_zero htz
        have hdo : dtO d t := ⟨fun a ha => (aceO_of (hok a ha).1).1, ht4, ht5⟩
        have hdo2 : dtO (smO d) t := by
         obtain ⟨_, _, _, _, _, hok2, _⟩ := dscE_zero hz1
         exact ⟨fun a ha => (aceO_of (hok2 a ha).1).1, ht4, ht5⟩
        refine sq_val (v := dscV d A1 A2 c1 c2) h94 (wanted_yes h94 _ rfl rfl rfl gc90) rfl rfl (fun X hX => (ex_loads (by kernel_rfl) (by kernel_rfl) (h94.ev rfl) ((S88.grow hX).cellsAll (i := 11) rfl))) fun a95 h95 => ?_
        refine sq_val (v := tokV t A c) h95 (wanted_yes h95 _ rfl rfl rfl gc90) rfl rfl (fun X hX => (ex_loads (by kernel_rfl) (by kernel_rfl) (h95.ev rfl) ((S88.grow hX).cellsAll (i := 10) rfl))) fun a96 h96 => ?_
        refine sq_bel h96 (wanted_yes h96 _ rfl rfl rfl gc90) rfl rfl (fun X => (ex_call (fun _ _ => by kernel_rfl) (h96.evs rfl) rfl)) (fun X hX => refRights_any d t A1 A2 A c1 c2 c _ ⟨hl1, hl2, by omega, (S88.grow hX).rd0 hr1, (S88.grow hX).rd0 hr2, (S88.grow hX).rd0 hr3, hg.below (S88.grow hX).below⟩ hdo) fun a97 h97 => ?_
        refine sq_val (v := dscV (smO d) p41.1.1 p41.2.1 p41.1.2 p41.2.2) h97 (wanted_yes h97 _ rfl rfl rfl gc90) rfl rfl (fun X hX => (ex_loads (by kernel_rfl) (by kernel_rfl) (h97.ev rfl) ((S88.grow hX).cellsAll (i := 6) rfl))) fun a98 h98 => ?_
        refine sq_val (v := tokV t A c) h98 (wanted_yes h98 _ rfl rfl rfl gc90) rfl rfl (fun X hX => (ex_loads (by kernel_rfl) (by kernel_rfl) (h98.ev rfl) ((S88.grow hX).cellsAll (i := 10) rfl))) fun a99 h99 => ?_
        refine sq_bel h99 (wanted_yes h99 _ rfl rfl rfl gc90) rfl rfl (fun X => (ex_call (fun _ _ => by kernel_rfl) (h99.evs rfl) rfl)) (fun X hX => refRights_any (smO d) t p41.1.1 p41.2.1 A p41.1.2 p41.2.2 c _ ⟨hs1, hs2, by omega, (S88.grow hX).rdOf (i := 7) rfl, (S88.grow hX).rdOf (i := 8) rfl, (S88.grow hX).rd0 hr3, hg.below (S88.grow hX).below⟩ hdo2) fun a100 h100 => ?_
        refine qy h100 (fun X hX => (ex_neq (h100.ev rfl) (h100.ev rfl))) fun a101 h101 => ?_
        exact sq_nil (h101.mid (m := [(_, _), (_, _), (_, _), (_, _), (_, _), (_, _)]) rfl)
       case hf =>
        intro gc90
        refine qo h94 fun a102 h102 => ?_
        refine qo h102 fun a103 h103 => ?_
        refine qo h103 fun a104 h104 => ?_
        refine qo h104 fun a105 h105 => ?_
        refine qo h105 fun a106 h106 => ?_
        refine qo h106 fun a107 h107 => ?_
        refine qo h107 fun a108 h108 => ?_
        exact sq_nil ⟨_, h108.mid (m := [(_, _), (_, _), (_, _), (_, _), (_, _), (_, _)]) rfl⟩
       case h =>
        intro v109 a109 hg97 h109
        refine sq_nil ?_
        refine nd_end fun X110 hX110 hΦ110 => ?_
        have S110 := S88.grow hX110
        refine sv h109 (ex_pick_and (h109.ev rfl) (h109.ev rfl) hg97 (h109.ev rfl)) fun a111 h111 => ?_
        refine st_nil (go_then ?_)
        refine st_if_f (h111.ev rfl) ((by rw [← hrg1 t]; simp)) ?_
        refine wp_skip (go_then (st_seq (st_reg ?_)))
        refine vf h111 4 4 fun a112 h112 => ?_
        refine vl h112 S110 11 fun a113 h113 => ?_
        refine sl_own h113 (wn rfl) (ex_call (fun _ _ => by kernel_rfl) (h113.evs rfl) rfl) rfl rfl S110 (CopyAces_it A1 c1 d.es _ (by omega) (S110.rd0 hr1)) (Nat.le_refl _) fun A102 c102 a114 X114 h114 S114 => ?_
        refine sl_more h114 (wn rfl) (ex_call (fun _ _ => by kernel_rfl) (h114.evs rfl) rfl) rfl rfl S114 (CanonicalOf_any d.es A102 c102 _ (by omega) (S114.rdOf (i := 0) rfl)) fun p103 a115 X115 h115 S115 => ?_
        refine mv h115 fun a116 h116 => ?_
        refine vx h116 fun a117 h117 => ?_
        refine vx h117 fun a118 h118 => ?_
        refine ma h118 fun a119 h119 => ?_
        refine ma h119 fun a120 h120 => ?_
        refine nsr ?_
        refine mv h120 fun a121 h121 => ?_
        refine sl_own h121 (wn rfl) (ex_call (fun _ _ => by kernel_rfl) (h121.evs rfl) rfl) rfl rfl S115 (CopyAces_it p103.1 p103.2 (cnO d.es) _ (by omega) (S115.rdOf (i := 0) rfl)) (Nat.le_refl _) fun A108 c108 a122 X122 h122 S122 => ?_
        refine sl_more h122 (wn rfl) (ex_call (fun _ _ => by kernel_rfl) (h122.evs rfl) rfl) rfl rfl S122 (MergedOf_any (cnO d.es) A108 c108 _ (by omega) (S122.rdOf (i := 0) rfl)) fun p109 a123 X123 h123 S123 => ?_
        refine mv h123 fun a124 h124 => ?_
        refine vx h124 fun a125 h125 => ?_
        refine vx h125 fun a126 h126 => ?_
        refine maa h126 fun a128 h128 => ?_
        refine st_nil (go_then (st_seq (st_seq (st_reg ?_))))
        refine mv h128 fun a129 h129 => ?_
        refine sv h129 (ex_neq (h129.ev rfl) (h129.ev rfl)) fun a130 h130 => ?_
        refine mv h130 fun a131 h131 => ?_
        refine sl_val h131 (wanted_yes h131 _ rfl rfl rfl ((by rw [hac]; rfl))) (ex_move (h131.ev rfl)) rfl rfl fun a132 h132 => ?_
        refine sl_val h132 (wanted_yes h132 _ rfl rfl rfl ((by rw [hac]; rfl))) (ex_neq (h132.ev rfl) (h132.ev rfl)) rfl rfl fun a133 h133 => ?_
        refine sv h133 (ex_pick_f (h133.ev rfl) ((by rw [hac]; rfl)) (h133.ev rfl)) fun a134 h134 => ?_
        refine st_nil (go_then ?_)
        refine st_if_f (h134.ev rfl) ((by rw [hac2]; rfl)) ?_
        refine wp_skip (go_then (st_seq ?_))
        apply dr_flowM h134 (fun _ => False) [] [] [false, true, false, true, true, true] _ (by kernel_rfl) all0
        case h =>
         refine qv (v := dscV d A1 A2 c1 c2) h134 (fun X hX => ex_loads (by kernel_rfl) (by kernel_rfl) (h134.ev rfl) ((S123.grow (Grw.below hX)).cellsAll (i := 15) rfl)) fun a135 h135 => ?_
         refine qv (v := dscV d A1 A2 c1 c2) h135 (fun X hX => ex_loads (by kernel_rfl) (by kernel_rfl) (h135.ev rfl) ((S123.grow (Grw.below hX)).cellsAll (i := 15) rfl)) fun a136 h136 => ?_
         refine sq_nil ?_
         apply nm_step (O := (fun _ => False)) (k := 1) (deps := []) (R := TelJ (cpV d) (OwJ d X123.heap.size)) h136 rfl rfl rfl all0 (TelJ.stable OwJ.grow) all0 all0
         case hx => exact fun X hX hΦ => lv_telj (ex_call (fun _ _ => by kernel_rfl) (h136.evs rfl) rfl) (copy_ow d A1 A2 c1 c2 X123.heap.size _ hX.size hl1 hl2 ((S123.grow (Grw.below hX)).rd0 hr1) ((S123.grow (Grw.below hX)).rd0 hr2))
         intro v119 a119 h119
         apply nm_step (O := (fun _ => False)) (k := 3) (deps := []) (R := TelJ (cpV d) (OwJ d X123.heap.size)) h119 rfl rfl rfl all0 (TelJ.stable OwJ.grow) all0 all0
         case hx => exact fun X hX hΦ => lv_telj (ex_call (fun _ _ => by kernel_rfl) (h119.evs rfl) rfl) (copy_ow d A1 A2 c1 c2 X123.heap.size _ hX.size hl1 hl2 ((S123.grow (Grw.below hX)).rd0 hr1) ((S123.grow (Grw.below hX)).rd0 hr2))
         intro v121 a121 h121
         apply nm_step (O := (fun _ => False)) (k := 4) (deps := []) (R := NewB X123.heap.size (fun b => .pointer (some ⟨b, 0, none⟩)) #[.int .i64 0, .int .i64 0, .bool false, .bool false, .slice none 0 0, .slice none 0 0] 24) h121 rfl rfl rfl all0 NewB.stable all0 all0
         case hx => exact fun X hX hΦ => lv_new (ex_alloc (z := .agg #[.int .i64 0, .int .i64 0, .bool false, .bool false, .slice none 0 0, .slice none 0 0]) (by kernel_rfl)) hX.size
         intro v18 a18 h18
         apply nm_step (O := (fun _ => False)) (k := 5) (deps := []) (R := NewB X123.heap.size (fun b => .pointer (some ⟨b, 0, none⟩)) #[.int .i64 0, .int .i64 0, .bool false, .bool false, .slice none 0 0, .slice none 0 0] 24) h18 rfl rfl rfl all0 NewB.stable all0 all0
         case hx => exact fun X hX hΦ => lv_new (ex_alloc (z := .agg #[.int .i64 0, .int .i64 0, .bool false, .bool false, .slice none 0 0, .slice none 0 0]) (by kernel_rfl)) hX.size
         intro v19 a137 h137
         refine nm_endD (O := (fun _ => False)) all0 fun X137 hX9 hD9 hΦ9 => ?_
         obtain ⟨⟨⟨A3, c3⟩, B3, e3⟩, rfl, q31, q32⟩ := told_all hΦ9 (k := 1) rfl
         obtain ⟨⟨⟨A4, c4⟩, B4, e4⟩, rfl, q41, q42⟩ := told_all hΦ9 (k := 3) rfl
         obtain ⟨b18, rfl, gb18, qb18⟩ := told_all hΦ9 (k := 4) rfl
         obtain ⟨b19, rfl, gb19, qb19⟩ := told_all hΦ9 (k := 5) rfl
         have hne : b18 ≠ b19 := hD9.ne h137 (i := 4) (j := 5) (by simp) (by simp) (by decide) rfl rfl rfl rfl rfl rfl rfl rfl
         have S137 := St.dsc2 S123 (Grw.below hX9) q32 q42 qb18 gb18 qb19 gb19 hne (by decide)
         refine sw h137 S137 1 fun X138 S138 => ?_
         refine sw h137 S138 0 fun X139 S139 => ?_
         refine nsr ?_
         refine mvv h137 fun a141 h141 => ?_
         refine vf h141 4 4 fun a142 h142 => ?_
         refine sl_store h142 (wn rfl) ⟨rfl, rfl⟩ (h142.ev rfl) (h142.ev rfl) rfl (by kernel_rfl) S139 (i := 1) rfl rfl rfl fun X143 S143 => ?_
         refine vf h142 4 4 fun a144 h144 => ?_
         refine sl_store h144 (wn rfl) ⟨rfl, rfl⟩ (h144.ev rfl) (h144.ev rfl) rfl (by kernel_rfl) S143 (i := 0) rfl rfl rfl fun X145 S145 => ?_
         refine st_nil (go_then (st_seq (st_seq (st_reg ?_))))
         refine sv (v := dscV { d with es := mgO (cnO d.es) } p109.1 B4 p109.2 e4) h144 (ex_loads (by kernel_rfl) (by kernel_rfl) (h144.ev rfl) (S145.cellsAll (i := 0) rfl)) fun a146 h146 => ?_
         refine sl_bel h146 (wn rfl) (ex_call (fun _ _ => by kernel_rfl) (h146.evs rfl) rfl) rfl rfl S145 (refDescErr_any { d with es := mgO (cnO d.es) } p109.1 B4 p109.2 e4 _ hlM hl2 (S145.rdOf (i := 3) rfl) (S145.row2 (i := 2) rfl).2) fun a147 X147 h147 S147 => ?_
         refine sv h147 (ex_neq (h147.ev rfl) (h147.ev rfl)) fun a148 h148 => ?_
         refine st_nil (go_then ?_)
         refine st_if_f (h148.ev rfl) ((by rw [hzM]; rfl)) ?_
         refine wp_skip (go_then (st_seq (st_reg ?_)))
         refine sv (v := dscV { d with es := cnO d.es } p103.1 B3 p103.2 e3) h148 (ex_loads (by kernel_rfl) (by kernel_rfl) (h148.ev rfl) (S147.cellsAll (i := 1) rfl)) fun a149 h149 => ?_
         refine sv (v := dscV { d with es := mgO (cnO d.es) } p109.1 B4 p109.2 e4) h149 (ex_loads (by kernel_rfl) (by kernel_rfl) (h149.ev rfl) (S147.cellsAll (i := 0) rfl)) fun a150 h150 => ?_
         refine mv h150 fun a151 h151 => ?_
         refine sl_more h151 (wn rfl) (ex_call (fun _ _ => by kernel_rfl) (h151.evs rfl) rfl) rfl rfl S147 (Dif0_any { d with es := cnO d.es } { d with es := mgO (cnO d.es) } who p103.1 B3 p109.1 B4 AW p103.2 e3 p109.2 e4 cw _ ⟨hlC, hl2, hlM, hl2, by omega, S147.rdOf (i := 5) rfl, (S147.row2 (i := 2) rfl).1, S147.rdOf (i := 3) rfl, (S147.row2 (i := 2) rfl).2, S147.rd0 hrw, hg.below S147.below⟩ hzC hzM hw5 hrg2) fun p133 a152 X152 h152 S152 => ?_
         refine mv h152 fun a153 h153 => ?_
         refine sv (v := tokV noT p133.1.1 p133.1.2) h153 (ex_extract (h153.ev rfl) rfl) fun a154 h154 => ?_
         refine vx h154 fun a155 h155 => ?_
         refine na (.agg #[.int .i64 0, .slice none 0 0, .int .i64 0]) h155 rfl S152 fun b20 a156 X156 gb20 h156 S156 => ?_
         refine sw h156 S156 0 fun X157 S157 => ?_
         refine ma h156 fun a158 h158 => ?_
         refine nsr ?_
         refine mv h158 fun a159 h159 => ?_
         refine sv h159 (ex_not (h159.ev rfl)) fun a160 h160 => ?_
         refine ma h160 fun a161 h161 => ?_
         refine st_nil (go_then (wp_ret ?_))
         refine fin1 h161 rfl rfl ?_
         exact ⟨rfl, S157.below⟩
        case hB => kernel_rfl
      case hB => kernel_rfl
      case hst => rfl
     case hB => kernel_rfl
end Go.Proofs.YtanicpgmbhfipaaGreatDoor
