/-
  Chapter 22: the examples of the chapter hold.
-/
import Derived.Test.YtcfdpfmchchkaaaGreatDoorRcAw
import Derived.Test.YtcfdpfmchchkaaaGreatDoorRcL
namespace Go.Proofs.YtcfdpfmchchkaaaGreatDoor
set_option linter.unusedVariables false
set_option linter.unusedSimpArgs false
set_option maxRecDepth 4000
open Go.RowKit Go.Sort Go.Shelf
theorem own_cap {w : World} {base sz n c : Nat} {T : TypeId} {A : Option Addr} {xs : List Value} (h : w.ownsRow base T sz (.slice A n c) n xs) : n ≤ c := by
 rcases h.2 with ⟨h1, h2⟩ | ⟨g, cap, cur, h1, _, _, h2, _⟩
 · omega
 · injection h1 with _ _ h1
   omega
theorem awFew : ∀ x ∈ awH, FewE x.e ∧ I6 x.e.g := by
 intro x hx
 simp only [awH, List.mem_cons, List.not_mem_nil, or_false] at hx
 rcases hx with rfl | rfl | rfl | rfl <;> exact ⟨⟨by decide +kernel, by decide +kernel, by decide +kernel⟩, by decide, by decide⟩
def awPR : List Pgp := (rbyG awH awT awP).1
def awPM : List Pgp := (mnfG awH awP).1
theorem awA_any (A : Option Addr) (c : Nat) (w : World) (ho : w.ownsRow 0 145 14 (.slice A awH.length c) awH.length (awH.flatMap rcdL)) (hF : FolT w) :
 Calls Tryz.prog 24 #[.slice A awH.length c, .int .i64 0] w fun e w' => ∃ i : Option Addr × Nat × Option Addr × Nat, e = .returned (.tuple #[tblV awT i.1 i.2.1 i.2.2.1 i.2.2.2, .int .i64 0]) ∧
  St [] w w' [.row (.slice i.1 awT.ts.length i.2.1) awT.ts.length 116 4 (awT.ts.flatMap trsL), .row (.slice i.2.2.1 awT.ds.length i.2.2.2) awT.ds.length 124 3 (awT.ds.flatMap dtyL)] := by
 have h := Analysed_any awH A c 0 w (Rd.of_own ho) (by decide) (own_cap ho) hF (fun x hx => (awFew x hx).1)
 rw [aw_anl] at h
 exact h
theorem awR_any (A : Option Addr) (c : Nat) (A' : Option Addr) (c' : Nat) (TA : Option Addr) (tc : Nat) (TB : Option Addr) (td : Nat) (w : World) (ho : w.ownsRow 0 145 14 (.slice A awH.length c) awH.length (awH.flatMap rcdL)) (hp : w.ownsRow 0 111 3 (.slice A' awP.length c') awP.length (awP.flatMap pgpL))
 (ht1 : Rd w w.heap.size TA (awT.ts.flatMap trsL)) (ht2 : Rd w w.heap.size TB (awT.ds.flatMap dtyL)) (hF : FolT w) :
 Calls Tryz.prog 29 #[.slice A awH.length c, tblV awT TA tc TB td, .slice A' awP.length c'] w fun e w' => ∃ B d, e = .returned (.tuple #[.slice B awPR.length d, .int .i64 3, .int .i64 0]) ∧ w'.ownsRow w.heap.size 111 3 (.slice B awPR.length d) awPR.length (awPR.flatMap pgpL) ∧ Below w.heap.size w w' := by
 refine (RedoneBy_any awH A c awT TA tc TB td awP A' c' w (Rd.of_own hp) (Rd.of_own ho) ht1 ht2 (by decide) (own_cap ho) (by decide) hF awFew).mono fun e w' ⟨i, h1, h2⟩ => ⟨i.1, i.2, ?_, h2.ownB (i := 0) rfl, h2.below⟩
 rw [h1, aw_rdo.1]; rfl
theorem awU_any (A : Option Addr) (c : Nat) (TA : Option Addr) (tc : Nat) (TB : Option Addr) (td : Nat) (w : World) (ho : w.ownsRow 0 145 14 (.slice A awH.length c) awH.length (awH.flatMap rcdL))
 (ht1 : Rd w w.heap.size TA (awT.ts.flatMap trsL)) (ht2 : Rd w w.heap.size TB (awT.ds.flatMap dtyL)) (hF : FolT w) :
 Calls Tryz.prog 31 #[.slice A awH.length c, tblV awT TA tc TB td] w fun e w' => ∃ B d, e = .returned (.tuple #[.slice B ([113, 41] : List Int).length d, .int .i64 0]) ∧ w'.ownsRow w.heap.size 3 1 (.slice B ([113, 41] : List Int).length d) ([113, 41] : List Int).length (([113, 41] : List Int).map (.int .i64)) ∧ Below w.heap.size w w' := by
 have h := UndoOrder_any awH A c awT TA tc TB td w (Rd.of_own ho) ht1 ht2 (by decide) (own_cap ho) hF (fun x hx => (awFew x hx).1)
 rw [aw_uo.1, aw_uo.2] at h
 exact h.mono fun e w' ⟨i, h1, h2⟩ => ⟨i.1, i.2, h1, h2.ownB (i := 0) rfl, h2.below⟩
theorem awM_any (A : Option Addr) (c : Nat) (A' : Option Addr) (c' : Nat) (w : World) (ho : w.ownsRow 0 145 14 (.slice A awH.length c) awH.length (awH.flatMap rcdL)) (hp : w.ownsRow 0 111 3 (.slice A' awP.length c') awP.length (awP.flatMap pgpL)) (hF : FolT w) :
 Calls Tryz.prog 38 #[.slice A awH.length c, .slice A' awP.length c'] w fun e w' => ∃ B d, e = .returned (.tuple #[.slice B awPM.length d, .int .i64 1, .int .i64 0]) ∧ w'.ownsRow w.heap.size 111 3 (.slice B awPM.length d) awPM.length (awPM.flatMap pgpL) ∧ Below w.heap.size w w' := by
 refine (MeaningOf_any awH A c awP A' c' w (Rd.of_own hp) (Rd.of_own ho) (by decide) (own_cap ho) (by decide) hF awFew).mono fun e w' ⟨i, h1, h2⟩ => ⟨i.1, i.2, ?_, h2.ownB (i := 0) rfl, h2.below⟩
 rw [h1, aw_mng.1]; rfl
theorem head_get {α β : Type} {l : List α} {f : α → β} {x : β} (h : (l.map f).head? = some x) : ∃ h0 : 0 < l.length, f l[0] = x := by
 cases l with
 | nil => cases h
 | cons a r =>
  injection h with h
  exact ⟨by simp, h⟩
theorem cut_eq {s : ByteArray} {a b : Nat} {l : List UInt8} (hab : a ≤ b) (h : ((bl s).drop a).take (b - a) = l) : s.extract a b = bs l := by
 apply bl_inj
 rw [bl_extract, bl_bs, ← h, List.drop_take]
theorem awPR_len : awPR.length = 2 := aw_rdo.2.1
theorem awPR_ok : ∃ h0 : 0 < awPR.length, awPR[0].b.size = 512 ∧ awPR[0].b.extract 70 71 = ⟨#[98]⟩ := by
 obtain ⟨h0, h⟩ := head_get (l := awPR) aw_rdo.2.2
 simp only [Prod.mk.injEq] at h
 exact ⟨h0, h.1, cut_eq (by decide) h.2⟩
theorem awPM_ok : ∃ h0 : 0 < awPM.length, awPM[0].b.size = 512 ∧ awPM[0].b.extract 64 71 = ⟨#[97, 0, 0, 0, 0, 0, 0]⟩ := by
 obtain ⟨h0, h⟩ := head_get (l := awPM) aw_mng.2
 simp only [Prod.mk.injEq] at h
 exact ⟨h0, h.1, cut_eq (by decide) h.2⟩
attribute [local irreducible] awPR awPM
theorem awake_any (w : World) (hF : FolT w) : Calls Tryz.prog 13 #[] w fun e w' => e = .returned (.bool true) ∧ Below w.heap.size w w' := by
 obtain ⟨hR0, hR1, hR2⟩ := awPR_ok
 obtain ⟨hM0, hM1, hM2⟩ := awPM_ok
 have hRl : awPR.length = 2 := awPR_len
 refine st_enter (N := 115) Tryz.func13 rfl rfl rfl (fun a0 h0 => ?_)
 have S0 := St.init w
 refine st_seq (st_reg ?_)
 refine ma h0 rfl rfl fun a1 h1 => ?_
 refine nsr ?_
 refine sl_own h1 (wn rfl) (ex_call (fun _ _ => by kernel_rfl) (h1.evs rfl) rfl) rfl rfl S0 (History_any _) (Nat.le_refl _) fun A14 c14 a2 X2 h2 S2 => ?_
 refine sl_more h2 (wn rfl) (ex_call (fun _ _ => by kernel_rfl) (h2.evs rfl) rfl) rfl rfl S2 (awA_any A14 c14 _ (S2.at_ (i := 0) rfl) (hF.below S2.below)) fun p15 a3 X3 h3 S3 => ?_
 refine mv h3 rfl rfl fun a4 h4 => ?_
 refine sv (v := tblV awT p15.1 p15.2.1 p15.2.2.1 p15.2.2.2) h4 (ex_extract (h4.ev rfl) rfl) fun a5 h5 => ?_
 refine vx h5 rfl rfl rfl fun a6 h6 => ?_
 refine na (.agg #[.slice none 0 0, .slice none 0 0]) h6 rfl S3 fun b1 a7 X7 gb1 h7 S7 => ?_
 refine sl_store0 h7 (wn rfl) ⟨rfl, rfl⟩ (h7.ev rfl) (h7.ev rfl) rfl (by kernel_rfl) S7 (i := 0) rfl rfl rfl fun X8 S8 => ?_
 refine ma h7 rfl rfl fun a9 h9 => ?_
 refine st_nil (go_then (st_seq ?_))
 apply dr_flowM h9 (fun _ => False) [] [] [true, false, true, true, true, true, true, true, true, true] _ (by kernel_rfl) all0
 case h =>
  refine qv (v := tblV awT p15.1 p15.2.1 p15.2.2.1 p15.2.2.2) h9 (fun X hX => ex_loads (by kernel_rfl) (by kernel_rfl) (h9.ev rfl) ((S8.grow (Grw.below hX)).cellsAll (i := 0) rfl)) fun a10 h10 => ?_
  refine sq_nil ?_
  apply nm_step (O := (fun _ => False)) (k := 0) (deps := []) (R := OwnB _ _ _ _ _) h10 rfl rfl rfl all0 OwnB.stable all0 all0
  case hx => exact fun X hX hΦ => lv_own (ex_call (fun _ _ => by kernel_rfl) (h10.evs rfl) rfl) (History_any _) hX.size
  intro v19 a11 h11
  apply nm_step (O := (fun _ => False)) (k := 2) (deps := []) (R := OwnB _ _ _ _ _) h11 rfl rfl rfl all0 OwnB.stable all0 all0
  case hx => exact fun X hX hΦ => lv_own (ex_call (fun _ _ => by kernel_rfl) (h11.evs rfl) rfl) (Pages_any _) hX.size
  intro v21 a12 h12
  apply nm_step (O := (fun _ => False)) (k := 3) (deps := [0, 2]) (R := RowU _ _ _ _ _ _) h12 rfl rfl rfl all0 RowU.stable all0 all0
  case hx =>
   intro X hX hΦ
   obtain ⟨A19, c19, rfl, q19⟩ := (told_get (k := 0) hΦ rfl rfl)
   obtain ⟨A21, c21, rfl, q21⟩ := (told_get (k := 2) hΦ rfl rfl)
   exact lv_ownt (ex_call (fun _ _ => by kernel_rfl) (h12.evs rfl) rfl) (awR_any A19 c19 A21 c21 p15.1 p15.2.1 p15.2.2.1 p15.2.2.2 _ (ownsRow_mono q19 (Nat.zero_le _)) (ownsRow_mono q21 (Nat.zero_le _)) ((S8.grow (Grw.below hX)).rdOf (i := 1) rfl) ((S8.grow (Grw.below hX)).rdOf (i := 2) rfl) (hF.below (S8.grow (Grw.below hX)).below)) hX.size
  intro v22 a13 h13
  apply nm_mov (k := 4) (deps := [0, 2, 3]) (kx := 3) (src := 22) h13 rfl (.inl rfl) rfl rfl ⟨rfl, rfl⟩ rfl
  intro v18 a14 h14
  apply nm_ext (k := 5) (deps := [0, 2, 3, 4]) (kx := 4) (src := 18) (i := 0) h14 rfl rfl rfl rfl ⟨rfl, rfl⟩ rfl
  case hx =>
   intro X hΦ
   obtain ⟨_, _, e1, _⟩ := (told_get (k := 3) hΦ rfl rfl)
   exact ⟨_, _, ((MovS.get h13 rfl (told_get (k := 4) hΦ rfl rfl)).trans e1), rfl⟩
  intro v23 a15 h15
  apply nm_ext (k := 6) (deps := [0, 2, 3, 4]) (kx := 4) (src := 18) (i := 1) h15 rfl rfl rfl rfl ⟨rfl, rfl⟩ rfl
  case hx =>
   intro X hΦ
   obtain ⟨_, _, e1, _⟩ := (told_get (k := 3) hΦ rfl rfl)
   exact ⟨_, _, ((MovS.get h13 rfl (told_get (k := 4) hΦ rfl rfl)).trans e1), rfl⟩
  intro v24 a16 h16
  apply nm_ext (k := 7) (deps := [0, 2, 3, 4]) (kx := 4) (src := 18) (i := 2) h16 rfl rfl rfl rfl ⟨rfl, rfl⟩ rfl
  case hx =>
   intro X hΦ
   obtain ⟨_, _, e1, _⟩ := (told_get (k := 3) hΦ rfl rfl)
   exact ⟨_, _, ((MovS.get h13 rfl (told_get (k := 4) hΦ rfl rfl)).trans e1), rfl⟩
  intro v25 a17 h17
  apply nm_mov (k := 8) (deps := [0, 2, 3, 4, 5]) (kx := 5) (src := 23) h17 rfl (.inr rfl) rfl rfl ⟨rfl, rfl⟩ rfl
  intro v3 a18 h18
  apply nm_mov (k := 9) (deps := [0, 2, 3, 4, 6]) (kx := 6) (src := 24) h18 rfl (.inr rfl) rfl rfl ⟨rfl, rfl⟩ rfl
  intro v4 a19 h19
  refine nm_end (O := (fun _ => False)) all0 fun X20 hX20 hΦ20 => ?_
  obtain ⟨A22, c22, rfl, qr22⟩ := told_all hΦ20 (k := 3) rfl
  obtain rfl := MovS.get h13 rfl (told_all hΦ20 (k := 4) rfl)
  obtain rfl := ExtS.get h14 rfl rfl (told_all hΦ20 (k := 5) rfl)
  obtain rfl := ExtS.get h15 rfl rfl (told_all hΦ20 (k := 6) rfl)
  obtain rfl := ExtS.get h16 rfl rfl (told_all hΦ20 (k := 7) rfl)
  obtain rfl := MovS.get h17 rfl (told_all hΦ20 (k := 8) rfl)
  obtain rfl := MovS.get h18 rfl (told_all hΦ20 (k := 9) rfl)
  have S20 := St.addRow S8 (S8.grow (Grw.below hX20)) (fun e he b hb => (S8.new e he b hb).2) qr22
  refine ma h19 rfl rfl fun a21 h21 => ?_
  refine st_nil (go_then (st_seq ?_))
  apply dr_flowM h21 (fun _ => False) [] [] [true, false, true, true, true, true, true] _ (by kernel_rfl) all0
  case h =>
   refine qv (v := tblV awT p15.1 p15.2.1 p15.2.2.1 p15.2.2.2) h21 (fun X hX => ex_loads (by kernel_rfl) (by kernel_rfl) (h21.ev rfl) ((S20.grow (Grw.below hX)).cellsAll (i := 1) rfl)) fun a22 h22 => ?_
   refine sq_nil ?_
   apply nm_step (O := (fun _ => False)) (k := 0) (deps := []) (R := OwnB _ _ _ _ _) h22 rfl rfl rfl all0 OwnB.stable all0 all0
   case hx => exact fun X hX hΦ => lv_own (ex_call (fun _ _ => by kernel_rfl) (h22.evs rfl) rfl) (History_any _) hX.size
   intro v27 a23 h23
   apply nm_step (O := (fun _ => False)) (k := 2) (deps := [0]) (R := RowU _ _ _ _ _ _) h23 rfl rfl rfl all0 RowU.stable all0 all0
   case hx =>
    intro X hX hΦ
    obtain ⟨A27, c27, rfl, q27⟩ := (told_get (k := 0) hΦ rfl rfl)
    exact lv_ownt (ex_call (fun _ _ => by kernel_rfl) (h23.evs rfl) rfl) (awU_any A27 c27 p15.1 p15.2.1 p15.2.2.1 p15.2.2.2 _ (ownsRow_mono q27 (Nat.zero_le _)) ((S20.grow (Grw.below hX)).rdOf (i := 2) rfl) ((S20.grow (Grw.below hX)).rdOf (i := 3) rfl) (hF.below (S20.grow (Grw.below hX)).below)) hX.size
   intro v29 a24 h24
   apply nm_mov (k := 3) (deps := [0, 2]) (kx := 2) (src := 29) h24 rfl (.inl rfl) rfl rfl ⟨rfl, rfl⟩ rfl
   intro v26 a25 h25
   apply nm_ext (k := 4) (deps := [0, 2, 3]) (kx := 3) (src := 26) (i := 0) h25 rfl rfl rfl rfl ⟨rfl, rfl⟩ rfl
   case hx =>
    intro X hΦ
    obtain ⟨_, _, e1, _⟩ := (told_get (k := 2) hΦ rfl rfl)
    exact ⟨_, _, ((MovS.get h24 rfl (told_get (k := 3) hΦ rfl rfl)).trans e1), rfl⟩
   intro v30 a26 h26
   apply nm_ext (k := 5) (deps := [0, 2, 3]) (kx := 3) (src := 26) (i := 1) h26 rfl rfl rfl rfl ⟨rfl, rfl⟩ rfl
   case hx =>
    intro X hΦ
    obtain ⟨_, _, e1, _⟩ := (told_get (k := 2) hΦ rfl rfl)
    exact ⟨_, _, ((MovS.get h24 rfl (told_get (k := 3) hΦ rfl rfl)).trans e1), rfl⟩
   intro v31 a27 h27
   apply nm_mov (k := 6) (deps := [0, 2, 3, 4]) (kx := 4) (src := 30) h27 rfl (.inr rfl) rfl rfl ⟨rfl, rfl⟩ rfl
   intro v6 a28 h28
   refine nm_end (O := (fun _ => False)) all0 fun X29 hX29 hΦ29 => ?_
   obtain ⟨A29, c29, rfl, qr29⟩ := told_all hΦ29 (k := 2) rfl
   obtain rfl := MovS.get h24 rfl (told_all hΦ29 (k := 3) rfl)
   obtain rfl := ExtS.get h25 rfl rfl (told_all hΦ29 (k := 4) rfl)
   obtain rfl := ExtS.get h26 rfl rfl (told_all hΦ29 (k := 5) rfl)
   obtain rfl := MovS.get h27 rfl (told_all hΦ29 (k := 6) rfl)
   have S29 := St.addRow S20 (S20.grow (Grw.below hX29)) (fun e he b hb => (S20.new e he b hb).2) qr29
   refine ma h28 rfl rfl fun a30 h30 => ?_
   refine nsr ?_
   refine sl_own h30 (wn rfl) (ex_call (fun _ _ => by kernel_rfl) (h30.evs rfl) rfl) rfl rfl S29 (History_any _) (Nat.le_refl _) fun A33 c33 a31 X31 h31 S31 => ?_
   refine sl_own h31 (wn rfl) (ex_call (fun _ _ => by kernel_rfl) (h31.evs rfl) rfl) rfl rfl S31 (Pages_any _) (Nat.le_refl _) fun A34 c34 a32 X32 h32 S32 => ?_
   refine sl_ownt h32 (wn rfl) (ex_call (fun _ _ => by kernel_rfl) (h32.evs rfl) rfl) rfl rfl S32 (awM_any A33 c33 A34 c34 _ (S32.at_ (i := 1) rfl) (S32.at_ (i := 0) rfl) (hF.below S32.below)) (Nat.le_refl _) fun A35 c35 a33 X33 h33 S33 => ?_
   refine mv h33 rfl rfl fun a34 h34 => ?_
   refine vx h34 rfl rfl rfl fun a35 h35 => ?_
   refine vx h35 rfl rfl rfl fun a36 h36 => ?_
   refine vx h36 rfl rfl rfl fun a37 h37 => ?_
   refine ma h37 rfl rfl fun a38 h38 => ?_
   refine ma h38 rfl rfl fun a39 h39 => ?_
   refine ma h39 rfl rfl fun a40 h40 => ?_
   refine nsr ?_
   refine sv (v := tblV awT p15.1 p15.2.1 p15.2.2.1 p15.2.2.2) h40 (ex_loads (by kernel_rfl) (by kernel_rfl) (h40.ev rfl) (S33.cellsAll (i := 5) rfl)) fun a41 h41 => ?_
   refine sl_bel h41 (wn rfl) (ex_call (fun _ _ => by kernel_rfl) (h41.evs rfl) rfl) rfl rfl S33 (TableBytes_any awT p15.1 p15.2.1 p15.2.2.1 p15.2.2.2 _ (S33.rdOf (i := 6) rfl) (S33.rdOf (i := 7) rfl)) fun a42 X42 h42 S42 => ?_
   refine mv h42 rfl rfl fun a43 h43 => ?_
   refine vx h43 rfl rfl rfl fun a44 h44 => ?_
   refine vx h44 rfl rfl rfl fun a45 h45 => ?_
   refine ma h45 rfl rfl fun a46 h46 => ?_
   refine ma h46 rfl rfl fun a47 h47 => ?_
   obtain ⟨bT, oT, eT, _, _⟩ := (S42.rdOf (i := 6) rfl).opened (by decide)
   obtain ⟨bR, oR, eR, _, _⟩ := (S42.rdOf (i := 4) rfl).opened (flat_pos pgpL_len (by decide) hR0)
   obtain ⟨bM, oM, eM, _, _⟩ := (S42.rdOf (i := 0) rfl).opened (flat_pos pgpL_len (by decide) hM0)
   have hU := S42.rdOf (i := 3) rfl
   refine nsr ?_
   refine mv h47 rfl rfl fun a48 h48 => ?_
   refine sv h48 (ex_eql (h48.ev rfl) (h48.ev rfl)) fun a49 h49 => ?_
   refine mv h49 rfl rfl fun a50 h50 => ?_
   refine sl_val h50 (wanted_yes h50 _ rfl rfl rfl (rfl)) (ex_field (off := 0) (j := 0) (by kernel_rfl) (h50.ev rfl) rfl) rfl rfl fun a51 h51 => ?_
   refine sl_val h51 (wanted_yes h51 _ rfl rfl rfl (rfl)) (ex_load (by kernel_rfl) (h51.ev rfl) (S42.cell (i := 5) rfl rfl)) rfl rfl fun a52 h52 => ?_
   refine sl_val h52 (wanted_yes h52 _ rfl rfl rfl (rfl)) (ex_len Tryz.underlying22 (h52.ev rfl)) rfl rfl fun a53 h53 => ?_
   refine sl_val h53 (wanted_yes h53 _ rfl rfl rfl (rfl)) (ex_eql (h53.ev rfl) (h53.ev rfl)) rfl rfl fun a54 h54 => ?_
   refine sv h54 (ex_pick_t (h54.ev rfl) (rfl) (h54.ev rfl)) fun a55 h55 => ?_
   refine mv h55 rfl rfl fun a56 h56 => ?_
   refine sl_val h56 (wanted_yes h56 _ rfl rfl rfl (rfl)) (ex_field (off := 0) (j := 0) (by kernel_rfl) (h56.ev rfl) rfl) rfl rfl fun a57 h57 => ?_
   refine sl_val h57 (wanted_yes h57 _ rfl rfl rfl (rfl)) (as_val (v' := .slice (some ⟨bT, oT, none⟩) 2 p15.2.1) (by rw [eT]; rfl) (ex_load (by kernel_rfl) (h57.ev rfl) (S42.cell (i := 5) rfl rfl))) rfl rfl fun a58 h58 => ?_
   refine sl_val h58 (wanted_yes h58 _ rfl rfl rfl (rfl)) (ex_index (i := 0) (sz := 4) Tryz.underlying22 (by kernel_rfl) (h58.ev rfl) (h58.ev rfl) (by omega) (by omega) rfl) rfl rfl fun a59 h59 => ?_
   refine sl_val (v := trnV awT.ts[0]) h59 (wanted_yes h59 _ rfl rfl rfl (rfl)) (ex_loads (by kernel_rfl) (by kernel_rfl) (h59.ev rfl) (flatAt trsL_len (eT ▸ S42.rdOf (i := 6) rfl) (show 0 < awT.ts.length by decide))) rfl rfl fun a60 h60 => ?_
   refine sl_val h60 (wanted_yes h60 _ rfl rfl rfl (rfl)) (ex_build (zs := [.int .i64 0, .int .i64 0, .int .i64 0, .bool false]) (pl := [(0, 1), (1, 1), (2, 1), (3, 1)]) (by kernel_rfl) (by kernel_rfl) (h60.evs2 rfl) rfl rfl) rfl rfl fun a61 h61 => ?_
   refine sl_val h61 (wanted_yes h61 _ rfl rfl rfl (rfl)) (ex_teql (ks := [.i .i64, .i .i64, .i .i64, .b]) (by kernel_rfl) Tryz.underlying116 (by kernel_rfl) (h61.ev rfl) (h61.ev rfl) rfl rfl) rfl rfl fun a62 h62 => ?_
   refine sv h62 (ex_pick_t (h62.ev rfl) (rfl) (h62.ev rfl)) fun a63 h63 => ?_
   refine mv h63 rfl rfl fun a64 h64 => ?_
   refine sl_val h64 (wanted_yes h64 _ rfl rfl rfl ((by decide))) (ex_move (h64.ev rfl)) rfl rfl fun a65 h65 => ?_
   refine sl_val h65 (wanted_yes h65 _ rfl rfl rfl ((by decide))) (ex_eql (h65.ev rfl) (h65.ev rfl)) rfl rfl fun a66 h66 => ?_
   refine sv h66 (ex_pick_t (h66.ev rfl) ((by decide)) (h66.ev rfl)) fun a67 h67 => ?_
   refine mv h67 rfl rfl fun a68 h68 => ?_
   refine sl_val h68 (wanted_yes h68 _ rfl rfl rfl (rfl)) (ex_move (h68.ev rfl)) rfl rfl fun a69 h69 => ?_
   refine sl_val h69 (wanted_yes h69 _ rfl rfl rfl (rfl)) (ex_eql (h69.ev rfl) (h69.ev rfl)) rfl rfl fun a70 h70 => ?_
   refine sv h70 (ex_pick_t (h70.ev rfl) (rfl) (h70.ev rfl)) fun a71 h71 => ?_
   refine mv h71 rfl rfl fun a72 h72 => ?_
   refine sl_val h72 (wanted_yes h72 _ rfl rfl rfl (rfl)) (ex_move (h72.ev rfl)) rfl rfl fun a73 h73 => ?_
   refine sl_val h73 (wanted_yes h73 _ rfl rfl rfl (rfl)) (ex_len Tryz.underlying48 (h73.ev rfl)) rfl rfl fun a74 h74 => ?_
   refine sl_val h74 (wanted_yes h74 _ rfl rfl rfl (rfl)) (ex_eql (h74.ev rfl) (h74.ev rfl)) rfl rfl fun a75 h75 => ?_
   refine sv h75 (ex_pick_t (h75.ev rfl) (rfl) (h75.ev rfl)) fun a76 h76 => ?_
   refine mv h76 rfl rfl fun a77 h77 => ?_
   refine sl_val h77 (wanted_yes h77 _ rfl rfl rfl ((by rw [hRl]; rfl))) (as_val (v' := .slice (some ⟨bR, oR, none⟩) awPR.length c22) (by rw [eR]; rfl) (ex_move (h77.ev rfl))) rfl rfl fun a78 h78 => ?_
   refine sl_val h78 (wanted_yes h78 _ rfl rfl rfl ((by rw [hRl]; rfl))) (ex_index (i := 0) (sz := 3) Tryz.underlying48 (by kernel_rfl) (h78.ev rfl) (h78.ev rfl) (by omega) (by omega) rfl) rfl rfl fun a79 h79 => ?_
   refine sl_val h79 (wanted_yes h79 _ rfl rfl rfl ((by rw [hRl]; rfl))) (ex_field (off := 2) (by kernel_rfl) (h79.ev rfl) rfl) rfl rfl fun a80 h80 => ?_
   refine sl_val h80 (wanted_yes h80 _ rfl rfl rfl ((by rw [hRl]; rfl))) (ex_load (by kernel_rfl) (h80.ev rfl) ((flatAt pgpL_len (eR ▸ S42.rdOf (i := 4) rfl) hR0) 2 _ rfl)) rfl rfl fun a81 h81 => ?_
   refine sl_val h81 (wanted_yes h81 _ rfl rfl rfl ((by rw [hRl]; rfl))) (ex_sslice (l := 70) (h := 71) Tryz.underlying9 (h81.ev rfl) (h81.ev rfl) (h81.ev rfl) (by omega) (by omega)) rfl rfl fun a82 h82 => ?_
   refine sl_val h82 (wanted_yes h82 _ rfl rfl rfl ((by rw [hRl]; rfl))) (ex_seql (h82.ev rfl) (h82.ev rfl)) rfl rfl fun a83 h83 => ?_
   refine sv h83 (ex_pick_t (h83.ev rfl) ((by rw [hRl]; rfl)) (h83.ev rfl)) fun a84 h84 => ?_
   refine mv h84 rfl rfl fun a85 h85 => ?_
   refine sl_val h85 (wanted_yes h85 _ rfl rfl rfl ((by rw [hR2]; rfl))) (ex_move (h85.ev rfl)) rfl rfl fun a86 h86 => ?_
   refine sl_val h86 (wanted_yes h86 _ rfl rfl rfl ((by rw [hR2]; rfl))) (ex_eql (h86.ev rfl) (h86.ev rfl)) rfl rfl fun a87 h87 => ?_
   refine sv h87 (ex_pick_t (h87.ev rfl) ((by rw [hR2]; rfl)) (h87.ev rfl)) fun a88 h88 => ?_
   refine mv h88 rfl rfl fun a89 h89 => ?_
   refine sl_val h89 (wanted_yes h89 _ rfl rfl rfl (rfl)) (ex_move (h89.ev rfl)) rfl rfl fun a90 h90 => ?_
   refine sl_new h90 (wanted_yes h90 _ rfl rfl rfl (rfl)) (f := fun b => .slice (some ⟨b, 0, none⟩) 2 2) (ex_bslice Tryz.underlying53 (by kernel_rfl) (by kernel_rfl) (h90.evs2 rfl) rfl rfl rfl (by decide) (by decide)) rfl rfl S42 fun b87 a91 X91 gb87 h91 S91 => ?_
   refine sl_bel h91 (wanted_yes h91 _ rfl rfl rfl (rfl)) (ex_call (fun _ _ => by kernel_rfl) (h91.evs rfl) rfl) rfl rfl S91 (rInts_any [113, 41] [113, 41] A29 (some ⟨b87, 0, none⟩) c29 2 _ (S91.rdOf (i := 4) rfl) (S91.boxRd (i := 0) rfl) (by decide)) fun a92 X92 h92 S92 => ?_
   refine sv h92 (ex_pick_t (h92.ev rfl) (rfl) (h92.ev rfl)) fun a93 h93 => ?_
   refine mv h93 rfl rfl fun a94 h94 => ?_
   refine sl_val h94 (wanted_yes h94 _ rfl rfl rfl ((by decide))) (ex_move (h94.ev rfl)) rfl rfl fun a95 h95 => ?_
   refine sl_val h95 (wanted_yes h95 _ rfl rfl rfl ((by decide))) (ex_eql (h95.ev rfl) (h95.ev rfl)) rfl rfl fun a96 h96 => ?_
   refine sv h96 (ex_pick_t (h96.ev rfl) ((by decide)) (h96.ev rfl)) fun a97 h97 => ?_
   refine mv h97 rfl rfl fun a98 h98 => ?_
   refine sl_val h98 (wanted_yes h98 _ rfl rfl rfl (rfl)) (ex_move (h98.ev rfl)) rfl rfl fun a99 h99 => ?_
   refine sl_val h99 (wanted_yes h99 _ rfl rfl rfl (rfl)) (ex_eql (h99.ev rfl) (h99.ev rfl)) rfl rfl fun a100 h100 => ?_
   refine sv h100 (ex_pick_t (h100.ev rfl) (rfl) (h100.ev rfl)) fun a101 h101 => ?_
   refine mv h101 rfl rfl fun a102 h102 => ?_
   refine sl_val h102 (wanted_yes h102 _ rfl rfl rfl (rfl)) (as_val (v' := .slice (some ⟨bM, oM, none⟩) awPM.length c35) (by rw [eM]; rfl) (ex_move (h102.ev rfl))) rfl rfl fun a103 h103 => ?_
   refine sl_val h103 (wanted_yes h103 _ rfl rfl rfl (rfl)) (ex_index (i := 0) (sz := 3) Tryz.underlying48 (by kernel_rfl) (h103.ev rfl) (h103.ev rfl) (by omega) (by omega) rfl) rfl rfl fun a104 h104 => ?_
   refine sl_val h104 (wanted_yes h104 _ rfl rfl rfl (rfl)) (ex_field (off := 2) (by kernel_rfl) (h104.ev rfl) rfl) rfl rfl fun a105 h105 => ?_
   refine sl_val h105 (wanted_yes h105 _ rfl rfl rfl (rfl)) (ex_load (by kernel_rfl) (h105.ev rfl) ((flatAt pgpL_len (eM ▸ S92.rdOf (i := 1) rfl) hM0) 2 _ rfl)) rfl rfl fun a106 h106 => ?_
   refine sl_val h106 (wanted_yes h106 _ rfl rfl rfl (rfl)) (ex_sslice (l := 64) (h := 71) Tryz.underlying9 (h106.ev rfl) (h106.ev rfl) (h106.ev rfl) (by omega) (by omega)) rfl rfl fun a107 h107 => ?_
   refine sl_val h107 (wanted_yes h107 _ rfl rfl rfl (rfl)) (ex_seql (h107.ev rfl) (h107.ev rfl)) rfl rfl fun a108 h108 => ?_
   refine sv h108 (ex_pick_t (h108.ev rfl) (rfl) (h108.ev rfl)) fun a109 h109 => ?_
   refine mv h109 rfl rfl fun a110 h110 => ?_
   refine sl_val h110 (wanted_yes h110 _ rfl rfl rfl ((by rw [hM2]; rfl))) (ex_move (h110.ev rfl)) rfl rfl fun a111 h111 => ?_
   refine sl_val h111 (wanted_yes h111 _ rfl rfl rfl ((by rw [hM2]; rfl))) (ex_eql (h111.ev rfl) (h111.ev rfl)) rfl rfl fun a112 h112 => ?_
   refine sv h112 (ex_pick_t (h112.ev rfl) ((by rw [hM2]; rfl)) (h112.ev rfl)) fun a113 h113 => ?_
   refine mv h113 rfl rfl fun a114 h114 => ?_
   refine sl_val h114 (wanted_yes h114 _ rfl rfl rfl ((by rw [aw_tbl.1]; rfl))) (ex_move (h114.ev rfl)) rfl rfl fun a115 h115 => ?_
   refine sl_val h115 (wanted_yes h115 _ rfl rfl rfl ((by rw [aw_tbl.1]; rfl))) (ex_slen Tryz.underlying9 (h115.ev rfl)) rfl rfl fun a116 h116 => ?_
   refine sl_val h116 (wanted_yes h116 _ rfl rfl rfl ((by rw [aw_tbl.1]; rfl))) (ex_eql (h116.ev rfl) (h116.ev rfl)) rfl rfl fun a117 h117 => ?_
   refine sv h117 (ex_pick_t (h117.ev rfl) ((by rw [aw_tbl.1]; rfl)) (h117.ev rfl)) fun a118 h118 => ?_
   refine ma h118 rfl rfl fun a119 h119 => ?_
   refine st_nil (go_then (wp_ret ?_))
   refine fin1 h119 rfl rfl ?_
   exact ⟨by rw [if_pos aw_tbl.1, bs_size, aw_tbl.2]; rfl, S92.below⟩
  case hB => kernel_rfl
 case hB => kernel_rfl
end Go.Proofs.YtcfdpfmchchkaaaGreatDoor
