/-
  Chapter 17: the law AccessOwns: its walk.
-/
import Derived.Test.YtanicpgmbhfipaaGreatDoorAcN
import Derived.Test.YtanicpgmbhfipaaGreatDoorAcI
namespace Go.Proofs.YtanicpgmbhfipaaGreatDoor
set_option linter.unusedVariables false
set_option linter.unusedSimpArgs false
set_option maxRecDepth 4000
open Go.RowKit Go.Sort Go.Shelf
theorem tk_none {d : DscP} {t : TokP} (h : botE d t ≠ 0) : tkE d t = botE d t ∧ tkO d t = zD := by
 have e1 : triE d t 256 = botE d t := by
  unfold triE botE
  rw [show mskE 256 = 0 from rfl]
  by_cases h1 : dscE d = 0 <;> by_cases h2 : tokE t = 0 <;> simp [firstE, h1, h2]
 have e2 : tkE d t = botE d t := by
  unfold tkE
  rw [e1]
  simp [firstE, h]
 exact ⟨e2, if_neg (by rw [e2]; exact h)⟩
theorem tk_some {d : DscP} {t : TokP} (h : botE d t = 0) : (tkE d t = if grtB d t 8 = true then 0 else 27) ∧ (grtB d t 8 = true → tkO d t = { d with o := t.u }) ∧ (grtB d t 8 = false → tkO d t = zD) := by
 obtain ⟨h1, h2⟩ := botE_zero h
 have e1 : triE d t 256 = 0 := by
  unfold triE
  rw [show mskE 256 = 0 from rfl, h1, h2]; rfl
 have e2 : tkG d t = grtB d t 8 := by
  unfold tkG
  rw [if_pos e1, nds_3]
 have e3 : tkE d t = if grtB d t 8 = true then 0 else 27 := by
  unfold tkE
  rw [e1, e2]
  cases grtB d t 8 <;> rfl
 refine ⟨e3, fun q => if_pos (by rw [e3, q]; rfl), fun q => if_neg (by rw [e3, q]; decide)⟩
theorem cr_none {d : DscP} {t : TokP} (dir : Bool) (h : botE d t ≠ 0) : crtE d t dir = botE d t ∧ crtO d t dir = zD := ⟨if_neg h, if_neg h⟩
theorem cr_some {d : DscP} {t : TokP} (dir : Bool) (h : botE d t = 0) : (crtE d t dir = if rchB dir t.u (grpT t) d = true then 0 else 16) ∧ crtO d t dir = rchO dir t.u (grpT t) d := by
 obtain ⟨h1, h2⟩ := botE_zero h
 obtain ⟨_, _, k3, k4⟩ := dscE_ok h1
 obtain ⟨ho, hg, _⟩ := wnD_ok h2
 obtain ⟨e1, e2⟩ := chE_eq (dir := dir) k3 k4 ho hg
 exact ⟨(if_pos h).trans e1, (if_pos h).trans e2⟩
theorem own_192 (d : DscP) (t : TokP) : bits .and .i64 (rgtP { d with o := t.u } t) 192 = 192 := by
 have h : ∀ i, i = 6 ∨ i = 7 → grtB { d with o := t.u } t i = true := fun i hi => by
  have h0 : isT t t.u = true := by unfold isT; simp
  rw [grt_fst]
  rcases hi with rfl | rfl <;> simp [h0]
 exact nds_4 (h 6 (.inl rfl)) (h 7 (.inr rfl))
theorem may_C (d y : DscP) (t : TokP) : mayE d y t = if (if dscE d = 0 then dscE y else dscE d) = 0 then tokE t else (if dscE d = 0 then dscE y else dscE d) := by
 unfold mayE
 by_cases h1 : dscE d = 0 <;> by_cases h2 : dscE y = 0 <;> by_cases h3 : tokE t = 0 <;> simp [firstE, h1, h2, h3]
def TelI {ι : Type} (φ : ι → Value) (R : ι → World → Prop) (v : Value) (X : World) : Prop := ∃ i, v = φ i ∧ R i X
theorem TelI.stable {ι : Type} {φ : ι → Value} {R : ι → World → Prop} (hR : ∀ i X X', R i X → Below X.heap.size X X' → R i X') (v : Value) (X X' : World) (h : TelI φ R v X) (hb : Below X.heap.size X X') : TelI φ R v X' := by
 obtain ⟨i, h1, h2⟩ := h
 exact ⟨i, h1, hR i X X' h2 hb⟩
theorem lv_tel {ι : Type} {φ : ι → Value} {R : ι → World → Prop} {X : World} {f : FuncId} {args : Array Value} {r : Result Next} (hx : r = .ok (.enter f args) X) (hc : Calls Tryz.prog f args X fun e X' => ∃ i, e = .returned (φ i) ∧ R i X' ∧ Below X.heap.size X X') : LeavesR Tryz.prog (TelI φ R) X r := by
 subst hx
 exact ⟨rfl, hc.mono fun e X' ⟨i, he, hi, hX⟩ => ⟨_, he, hX, i, rfl, hi⟩⟩
theorem CopyTok_own (t : TokP) (A : Option Addr) (c : Nat) (w : World) (hl : t.gs.length ≤ 100000) (hr : Rd w w.heap.size A (t.gs.map (.int .i64))) :
 Calls Tryz.prog 13 #[tokV t A c] w fun e w' => ∃ B k, e = .returned (tokV t B k) ∧ w'.ownsRow w.heap.size 3 1 (.slice B t.gs.length k) t.gs.length (t.gs.map (.int .i64)) ∧ Below w.heap.size w w' := by
 refine st_enter (N := 8) Tryz.func13 rfl rfl rfl (fun a0 h0 => ?_)
 have S0 := St.init w
 refine st_seq (st_reg ?_)
 refine nb h0 rfl rfl S0 fun b1 a1 X1 gb1 h1 S1 => ?_
 refine na (.agg #[.int .i64 0, .slice none 0 0, .int .i64 0]) h1 rfl S1 fun b2 a2 X2 gb2 h2 S2 => ?_
 refine nsr ?_
 refine vf h2 1 1 fun a3 h3 => ?_
 refine vl h3 S2 1 fun a4 h4 => ?_
 refine sl_own h4 (wn rfl) (ex_call (fun _ _ => by kernel_rfl) (h4.evs rfl) rfl) rfl rfl S2 (CopyInts_it A c t.gs _ (by omega) (S2.rd0 hr)) (Nat.le_refl _) fun A5 c5 a5 X5 h5 S5 => ?_
 refine vf h5 1 1 fun a6 h6 => ?_
 refine sl_store h6 (wn rfl) ⟨rfl, rfl⟩ (h6.ev rfl) (h6.ev rfl) rfl (by kernel_rfl) S5 (i := 2) rfl rfl rfl fun X7 S7 => ?_
 refine nsr ?_
 refine sv (v := tokV t A5 c5) h6 (ex_loads (by kernel_rfl) (by kernel_rfl) (h6.ev rfl) (S7.cellsAll (i := 2) rfl)) fun a8 h8 => ?_
 refine sw h8 S7 1 fun X9 S9 => ?_
 refine st_nil (go_then (wp_ret ?_))
 refine finc h8 rfl rfl S9 (i := 1) rfl (by kernel_rfl) (by kernel_rfl) ?_
 exact ⟨A5, c5, rfl, S9.ownB (i := 0) rfl, S9.below⟩
def tcV (t : TokP) (i : Option Addr × Nat) : Value := tokV t i.1 i.2
def OwT (t : TokP) (B : Nat) (i : Option Addr × Nat) (X : World) : Prop := X.ownsRow B 3 1 (.slice i.1 t.gs.length i.2) t.gs.length (t.gs.map (.int .i64))
theorem OwT.grow {t : TokP} {B : Nat} (i : Option Addr × Nat) (X X' : World) (h : OwT t B i X) (hb : Below X.heap.size X X') : OwT t B i X' := ownsRow_below h hb
theorem ownsRow_newT {B B' : Nat} {T T' : TypeId} {sz n : Nat} {v : Value} {xs : List Value} (hT : T ≠ T') {X X' : World} (h : X.ownsRow B T sz v n xs) (hX : Grw (NewT B' T') X X') : X'.ownsRow B T sz v n xs := by
 obtain ⟨h2, h3⟩ := h
 refine ⟨h2, ?_⟩
 rcases h3 with h3 | ⟨g, cap, cur, e1, e2, e3, e4⟩
 · exact .inl h3
 · refine .inr ⟨g, cap, cur, e1, e2, (hX.block g (Array.getElem?_eq_some_iff.1 e3).1 ?_).trans e3, e4⟩
   rintro ⟨_, cs, fr, e⟩
   rw [e3] at e
   injection e with e; injection e with _ e; exact hT e
theorem TelI.newT {ι : Type} {φ : ι → Value} {R : ι → World → Prop} {B : Nat} {T : TypeId} (hR : ∀ i X X', R i X → Grw (NewT B T) X X' → R i X') (v : Value) (X X' : World) (h : TelI φ R v X) (hX : Grw (NewT B T) X X') : TelI φ R v X' := by
 obtain ⟨i, h1, h2⟩ := h
 exact ⟨i, h1, hR i X X' h2 hX⟩
theorem OwT.newT {t : TokP} {B B' : Nat} {T' : TypeId} (hT : 3 ≠ T') (i : Option Addr × Nat) (X X' : World) (h : OwT t B i X) (hX : Grw (NewT B' T') X X') : OwT t B i X' := ownsRow_newT hT h hX
theorem OwJ.newT {d : DscP} {B B' : Nat} {T' : TypeId} (hT : 111 ≠ T') (i : (Option Addr × Nat) × Option Addr × Nat) (X X' : World) (h : OwJ d B i X) (hX : Grw (NewT B' T') X X') : OwJ d B i X' := ⟨ownsRow_newT hT h.1 hX, ownsRow_newT hT h.2 hX⟩
theorem ctok_ow (t : TokP) (A : Option Addr) (c B : Nat) (w : World) (hB : B ≤ w.heap.size) (hl : t.gs.length ≤ 100000) (hr : Rd w w.heap.size A (t.gs.map (.int .i64))) :
 Calls Tryz.prog 13 #[tokV t A c] w fun e w' => ∃ i, e = .returned (tcV t i) ∧ OwT t B i w' ∧ Below w.heap.size w w' := by
 refine (CopyTok_own t A c w hl hr).mono ?_
 rintro e w' ⟨A', k, rfl, g, hb⟩
 exact ⟨(A', k), rfl, ownsRow_mono g hB, hb⟩
theorem St.dsc1 {M : List Nat} {w0 w X : World} {L : List Ent} {b n1 n2 sz : Nat} {cs : Array Value} {T T1 : TypeId} {v1 v2 : Value} {xs1 xs2 : List Value} (h : St M w0 w L) (hX : Below w.heap.size w X) (h1 : X.ownsRow w.heap.size T1 sz v1 n1 xs1) (h2 : X.ownsRow w.heap.size T1 sz v2 n2 xs2) (hb : Box X b cs T) (hB : w.heap.size ≤ b) (hT : T1 ≠ T) :
 St M w0 X (.box b cs T :: row2E T1 sz v1 n1 xs1 v2 n2 xs2 :: L) :=
 St.add2 h (h.add hX (e := row2E T1 sz v1 n1 xs1 v2 n2 xs2) ⟨ownsRow_mono h1 (Nat.zero_le _), ownsRow_mono h2 (Nat.zero_le _)⟩ (fun k hk => hk.elim (fun hk => h1.lt k hk) (fun hk => h2.lt k hk))) (e2 := .box _ _ _) hb (fun k hk => by cases hk; exact ⟨hB, hb.lt⟩) (fun k hk hr => hr.elim (fun hr => ne_box_row h1 hb hT k hk hr) (fun hr => ne_box_row h2 hb hT k hk hr))
theorem two_ow {d : DscP} {i : (Option Addr × Nat) × Option Addr × Nat} {w X : World} {B : Nat} (hB : B ≤ w.heap.size) (h : St [] w X [row2E 111 4 (.slice i.1.1 d.es.length i.1.2) d.es.length (acesV d.es) (.slice i.2.1 d.us.length i.2.2) d.us.length (acesV d.us)]) : OwJ d B i X ∧ Below w.heap.size w X := by
 have h0 : X.ownsRow 0 111 4 (.slice i.1.1 d.es.length i.1.2) d.es.length (acesV d.es) ∧ X.ownsRow 0 111 4 (.slice i.2.1 d.us.length i.2.2) d.us.length (acesV d.us) := h.at_ (i := 0) rfl
 have hn : ∀ k, (row2E 111 4 (.slice i.1.1 d.es.length i.1.2) d.es.length (acesV d.es) (.slice i.2.1 d.us.length i.2.2) d.us.length (acesV d.us)).dom k → B ≤ k := fun k hk => by
  rcases (h.new _ (List.mem_cons_self ..) k hk).1 with h1 | h1
  · omega
  · cases h1
 exact ⟨⟨own_base h0.1 (fun k hk => hn k (.inl hk)), own_base h0.2 (fun k hk => hn k (.inr hk))⟩, h.below⟩
def tkI (d : DscP) (t : TokP) (i : (Option Addr × Nat) × Option Addr × Nat) : Value := .tuple #[dscV (tkO d t) i.1.1 i.2.1 i.1.2 i.2.2, .int .i64 (tkE d t)]
theorem taken_ow (d : DscP) (t : TokP) (A1 A2 A : Option Addr) (c1 c2 c B : Nat) (w : World) (hB : B ≤ w.heap.size) (hd : DT d t A1 A2 A w) :
 Calls Tryz.prog 44 #[dscV d A1 A2 c1 c2, tokV t A c] w fun e w' => ∃ i, e = .returned (tkI d t i) ∧ OwJ (tkO d t) B i w' ∧ Below w.heap.size w w' := by
 refine (TakenBy_any d t A1 A2 A c1 c2 c w hd).mono ?_
 rintro e w' ⟨i, rfl, h⟩
 exact ⟨i, rfl, two_ow hB h⟩
noncomputable def rpI (d y : DscP) (t : TokP) (i : (Option Addr × Nat) × Option Addr × Nat) : Value := .tuple #[dscV (rplO d y t) i.1.1 i.2.1 i.1.2 i.2.2, .int .i64 (rplE d y t)]
theorem repl_ow (d y : DscP) (t : TokP) (A1 A2 B1 B2 A : Option Addr) (c1 c2 e1 e2 c B : Nat) (w : World) (hB : B ≤ w.heap.size) (hd : DT d t A1 A2 A w) (he : DT y t B1 B2 A w) :
 Calls Tryz.prog 45 #[dscV d A1 A2 c1 c2, dscV y B1 B2 e1 e2, tokV t A c] w fun e w' => ∃ i, e = .returned (rpI d y t i) ∧ OwJ (rplO d y t) B i w' ∧ Below w.heap.size w w' := by
 refine (ReplacedBy_any d y t A1 A2 B1 B2 A c1 c2 e1 e2 c w hd he).mono ?_
 rintro e w' ⟨i, rfl, h⟩
 exact ⟨i, rfl, two_ow hB h⟩
def crI (d : DscP) (t : TokP) (dir : Bool) (i : (Option Addr × Nat) × Option Addr × Nat) : Value := .tuple #[dscV (crtO d t dir) i.1.1 i.2.1 i.1.2 i.2.2, .int .i64 (crtE d t dir)]
theorem crea_ow (d : DscP) (t : TokP) (dir : Bool) (A1 A2 A : Option Addr) (c1 c2 c B : Nat) (w : World) (hB : B ≤ w.heap.size) (hd : DT d t A1 A2 A w) :
 Calls Tryz.prog 46 #[dscV d A1 A2 c1 c2, tokV t A c, .bool dir] w fun e w' => ∃ i, e = .returned (crI d t dir i) ∧ OwJ (crtO d t dir) B i w' ∧ Below w.heap.size w w' := by
 refine (CreatedBy_any d t dir A1 A2 A c1 c2 c w hd).mono ?_
 rintro e w' ⟨i, rfl, h⟩
 exact ⟨i, rfl, two_ow hB h⟩
set_option maxHeartbeats 4000000 in
theorem wAccessOwns (d : DscP) (A1 A2 : Option Addr) (c1 c2 : Nat) (y : DscP) (B1 B2 : Option Addr) (b1 b2 : Nat) (t : TokP) (A : Option Addr) (c : Nat) (dir : Bool) (w : World) (hr1 : Rd w w.heap.size A1 (acesV d.es)) (hr2 : Rd w w.heap.size A2 (acesV d.us)) (hs1 : Rd w w.heap.size B1 (acesV y.es)) (hs2 : Rd w w.heap.size B2 (acesV y.us)) (hr3 : Rd w w.heap.size A (t.gs.map (.int .i64))) (hg : GrT w) :
 Calls Tryz.prog 8 #[dsc2V d A1 A2 c1 c2 y B1 B2 b1 b2, tokV t A c, .bool dir] w fun e w' => e = .returned (.bool true) ∧ Below w.heap.size w w' := by
 obtain ⟨C1, hC1⟩ : ∃ C1, C1 = if dscE d = 0 then dscE y else dscE d := ⟨_, rfl⟩
 have hmC := may_C d y t
 rw [← hC1] at hmC
 refine st_enter (N := 205) Tryz.func8 rfl rfl rfl (fun a0 h0 => ?_)
 have S0 := St.init w
 refine st_seq (st_reg ?_)
 refine nb h0 rfl rfl S0 fun b3 a1 X1 gb3 h1 S1 => ?_
 refine nb h1 rfl rfl S1 fun b4 a2 X2 gb4 h2 S2 => ?_
 refine ma h2 fun a3 h3 => ?_
 refine st_nil (go_then (st_seq (st_seq (st_reg ?_))))
 refine sl_bel h3 (wn rfl) (ex_call (fun _ _ => by kernel_rfl) (h3.evs rfl) rfl) rfl rfl S2 (awake17_any _ (hg.below S2.below)) fun a4 X4 h4 S4 => ?_
 refine sv h4 (ex_not (h4.ev rfl)) fun a5 h5 => ?_
 refine st_nil (go_then ?_)
 refine st_if_f (h5.ev rfl) (rfl) ?_
 refine wp_skip (go_then (st_seq ?_))
 apply dr_box2 h5 4 6 7 25 24 #[.int .i64 0, .int .i64 0, .bool false, .bool false, .slice none 0 0, .slice none 0 0] 5 7 8 27 24 #[.int .i64 0, .int .i64 0, .bool false, .bool false, .slice none 0 0, .slice none 0 0] [false, false, false, false, true, true, true, true] (by kernel_rfl)
 case h =>
  refine qv h5 (fun X hX => ex_aindex (i := 0) (sz := 6) (j := 0) Tryz.underlying64 (by kernel_rfl) (h5.ev rfl) (h5.ev rfl) rfl (by decide) rfl) fun a6 h6 => ?_
  refine qv (v := dscV d A1 A2 c1 c2) h6 (fun X hX => ex_loads (by kernel_rfl) (by kernel_rfl) (h6.ev rfl) ((S4.grow hX).cellsOf (i := 1) rfl 0 6)) fun a7 h7 => ?_
  refine qv h7 (fun X hX => ex_aindex (i := 1) (sz := 6) (j := 6) Tryz.underlying64 (by kernel_rfl) (h7.ev rfl) (h7.ev rfl) rfl (by decide) rfl) fun a8 h8 => ?_
  refine qv (v := dscV y B1 B2 b1 b2) h8 (fun X hX => ex_loads (by kernel_rfl) (by kernel_rfl) (h8.ev rfl) ((S4.grow hX).cellsOf (i := 1) rfl 6 6)) fun a9 h9 => ?_
  refine sq_nil ?_
  refine b2_end h9 S4 rfl rfl rfl rfl rfl rfl rfl rfl (fun ρ X => ex_alloc (z := .agg #[.int .i64 0, .int .i64 0, .bool false, .bool false, .slice none 0 0, .slice none 0 0]) (by kernel_rfl)) (fun ρ X => ex_alloc (z := .agg #[.int .i64 0, .int .i64 0, .bool false, .bool false, .slice none 0 0, .slice none 0 0]) (by kernel_rfl)) (by kernel_rfl) (by kernel_rfl) ⟨rfl, rfl⟩ ⟨rfl, rfl⟩ fun b7 b8 a10 X10 h10 S10 => ?_
  refine st_nil (go_then (st_seq (st_seq (st_reg ?_))))
  refine sv (v := dscV d A1 A2 c1 c2) h10 (ex_loads (by kernel_rfl) (by kernel_rfl) (h10.ev rfl) (S10.cellsAll (i := 1) rfl)) fun a11 h11 => ?_
  refine sv (v := tokV t A c) h11 (ex_loads (by kernel_rfl) (by kernel_rfl) (h11.ev rfl) (S10.cellsAll (i := 2) rfl)) fun a12 h12 => ?_
  refine sl_bel h12 (wn rfl) (ex_call (fun _ _ => by kernel_rfl) (h12.evs rfl) rfl) rfl rfl S10 (few_any d t A1 A2 A c1 c2 c _) fun a13 X13 h13 S13 => ?_
  refine sv h13 (ex_not (h13.ev rfl)) fun a14 h14 => ?_
  refine mv h14 fun a15 h15 => ?_
  apply sl_or h15 S13 32 rfl 4 36
  case hf =>
   intro gc32
   refine sl_val (v := dscV y B1 B2 b1 b2) h15 (wanted_yes h15 _ rfl rfl rfl gc32) (ex_loads (by kernel_rfl) (by kernel_rfl) (h15.ev rfl) (S13.cellsAll (i := 0) rfl)) rfl rfl fun a16 h16 => ?_
   refine sl_bel h16 (wanted_yes h16 _ rfl rfl rfl gc32) (ex_call (fun _ _ => by kernel_rfl) (h16.evs rfl) rfl) rfl rfl S13 (Few_any y B1 B2 b1 b2 _) fun a17 X17 h17 S17 => ?_
   refine sy h17 (ex_not (h17.ev rfl)) fun a18 h18 => ?_
   refine sv h18 (ex_pick_f (h18.ev rfl) gc32 (h18.ev rfl)) fun a19 h19 => ?_
   exact st_nil ⟨h19.mid (m := [(_, _), (_, _), (_, _)]) rfl, S17⟩
  case ht =>
   intro gc32
   refine no h15 fun a20 h20 => ?_
   refine no h20 fun a21 h21 => ?_
   refine no h21 fun a22 h22 => ?_
   refine sv h22 (ex_pick_t (h22.ev rfl) gc32 (h22.ev rfl)) fun a23 h23 => ?_
   exact st_nil ⟨h23.mid (m := [(_, _), (_, _), (_, _)]) rfl, S13⟩
  case h =>
   rintro a24 X24 ⟨h24, S24⟩
   refine st_nil (go_then ?_)
   refine st_if (h24.ev rfl) (fun hc1 => ?_) (fun hc1 => ?_)
   ·
    refine st_seq (st_reg ?_)
    refine ma h24 fun a25 h25 => ?_
    refine st_nil (go_then (wp_ret (ret_then ?_)))
    refine fin1 h25 rfl rfl ?_
    exact ⟨rfl, S24.below⟩
   ·
    obtain ⟨u1, u2⟩ := Bool.or_eq_false_iff.1 hc1
    have hfw : fewB d t = true := by simpa using u1
    have hfy : fewD y = true := by simpa using u2
    obtain ⟨n1, n2, n3⟩ : d.es.length ≤ 20 ∧ d.us.length ≤ 20 ∧ t.gs.length ≤ 18 := by
     unfold fewB fewD at hfw
     simp only [Bool.and_eq_true, decide_eq_true_eq] at hfw
     exact ⟨hfw.1.1, hfw.1.2, hfw.2⟩
    obtain ⟨n4, n5⟩ : y.es.length ≤ 20 ∧ y.us.length ≤ 20 := by
     unfold fewD at hfy
     simp only [Bool.and_eq_true, decide_eq_true_eq] at hfy
     exact hfy
    have hl1 : d.es.length ≤ 500 := by omega
    have hl2 : d.us.length ≤ 500 := by omega
    have hl3 : t.gs.length ≤ 1000 := by omega
    have hk1 : y.es.length ≤ 500 := by omega
    have hk2 : y.us.length ≤ 500 := by omega
    have hT1 : (tkO d t).es.length ≤ 500 := by unfold tkO; split; exact hl1; decide
    have hT2 : (tkO d t).us.length ≤ 500 := by unfold tkO; split; exact hl2; decide
    have hP1 : (rplO d y t).es.length ≤ 500 := by unfold rplO; split; exact hk1; decide
    have hP2 : (rplO d y t).us.length ≤ 500 := by unfold rplO; split; exact hk2; decide
    have hcl : ∀ l : List AceP, l.length ≤ 20 → (canL (ihG dir t.u (grpT t) l)).length ≤ 500 := fun l h => by have := ihG_len dir t.u (grpT t) l; rw [canL_len]; omega
    have hC5 : (crtO d t dir).es.length ≤ 500 := by unfold crtO chO; split; split; exact hcl _ n1; decide; decide
    have hC6 : (crtO d t dir).us.length ≤ 500 := by unfold crtO chO; split; split; exact hcl _ n2; decide; decide
    refine wp_skip (go_then (st_seq (st_reg ?_)))
    refine sv h24 (ex_build (zs := [.int .i64 0, .int .i64 0, .bool false, .bool false, .slice none 0 0, .slice none 0 0]) (pl := [(0, 1), (1, 1), (2, 1), (3, 1), (4, 1), (5, 1)]) (by kernel_rfl) (by kernel_rfl) (h24.evs2 rfl) rfl rfl) fun a26 h26 => ?_
    refine na (.agg #[.int .i64 0, .int .i64 0, .bool false, .bool false, .slice none 0 0, .slice none 0 0]) h26 rfl S24 fun b9 a27 X27 gb9 h27 S27 => ?_
    refine sw h27 S27 0 fun X28 S28 => ?_
    refine st_nil (go_then (st_seq ?_))
    apply dr_flowM h27 (fun _ => False) [] [(9, 24)] [false, true, false, true, true, true, true, true, true, true] _ (by kernel_rfl) all0
    case h =>
     refine qv (v := dscV d A1 A2 c1 c2) h27 (fun X hX => ex_loads (by kernel_rfl) (by kernel_rfl) (h27.ev rfl) ((S28.grow (Grw.below hX)).cellsAll (i := 2) rfl)) fun a29 h29 => ?_
     refine qv (v := tokV t A c) h29 (fun X hX => ex_loads (by kernel_rfl) (by kernel_rfl) (h29.ev rfl) ((S28.grow (Grw.below hX)).cellsAll (i := 3) rfl)) fun a30 h30 => ?_
     refine sq_nil ?_
     apply nm_step (O := (fun _ => False)) (k := 1) (deps := []) (R := TelI (cpV d) (OwJ d X28.heap.size)) h30 rfl rfl rfl all0 (TelI.stable OwJ.grow) all0 (all1 (TelI.newT (OwJ.newT (by decide))))
     case hx => exact fun X hX hΦ => lv_tel (ex_call (fun _ _ => by kernel_rfl) (h30.evs rfl) rfl) (copy_ow d A1 A2 c1 c2 X28.heap.size _ hX.size hl1 hl2 ((S28.grow (Grw.below hX)).rd0 hr1) ((S28.grow (Grw.below hX)).rd0 hr2))
     intro v40 a31 h31
     apply nm_step (O := (fun _ => False)) (k := 3) (deps := []) (R := TelI (tcV t) (OwT t X28.heap.size)) h31 rfl rfl rfl all0 (TelI.stable OwT.grow) all0 (all1 (TelI.newT (OwT.newT (by decide))))
     case hx => exact fun X hX hΦ => lv_tel (ex_call (fun _ _ => by kernel_rfl) (h31.evs rfl) rfl) (ctok_ow t A c X28.heap.size _ hX.size (by omega) ((S28.grow (Grw.below hX)).rd0 hr3))
     intro v42 a32 h32
     apply nm_step (O := (fun _ => False)) (k := 4) (deps := [1, 3]) (R := TelI (tkI d t) (OwJ (tkO d t) X28.heap.size)) h32 rfl rfl rfl all0 (TelI.stable OwJ.grow) all0 (all1 (TelI.newT (OwJ.newT (by decide))))
     case hx => exact fun X hX hΦ => (by obtain ⟨i1, rfl, g1, g2⟩ := (told_get (k := 1) hΦ rfl rfl); obtain ⟨i2, rfl, g3⟩ := (told_get (k := 3) hΦ rfl rfl); exact lv_tel (ex_call (fun _ _ => by kernel_rfl) (h32.evs rfl) rfl) (taken_ow d t i1.1.1 i1.2.1 i2.1 i1.1.2 i1.2.2 i2.2 X28.heap.size _ hX.size ⟨hl1, hl2, hl3, Rd.of_own g1, Rd.of_own g2, Rd.of_own g3, hg.below (S28.grow (Grw.below hX)).below⟩))
     intro v43 a33 h33
     apply nm_mov (k := 5) (deps := [1, 3, 4]) (kx := 4) (src := 43) h33 rfl (.inl rfl) rfl rfl ⟨rfl, rfl⟩ rfl
     intro v38 a34 h34
     apply nm_ext (k := 6) (deps := [1, 3, 4, 5]) (kx := 5) (src := 38) (i := 0) h34 rfl rfl rfl rfl ⟨rfl, rfl⟩ rfl
     case hx =>
      intro X hΦ
      obtain ⟨_, e1, _⟩ := (told_get (k := 4) hΦ rfl rfl)
      exact ⟨_, _, ((MovS.get h33 rfl (told_get (k := 5) hΦ rfl rfl)).trans e1), rfl⟩
     intro v44 a35 h35
     apply nm_ext (k := 7) (deps := [1, 3, 4, 5]) (kx := 5) (src := 38) (i := 1) h35 rfl rfl rfl rfl ⟨rfl, rfl⟩ rfl
     case hx =>
      intro X hΦ
      obtain ⟨_, e1, _⟩ := (told_get (k := 4) hΦ rfl rfl)
      exact ⟨_, _, ((MovS.get h33 rfl (told_get (k := 5) hΦ rfl rfl)).trans e1), rfl⟩
     intro v45 a36 h36
     apply nm_step (O := (fun _ => False)) (k := 8) (deps := []) (R := NewAny _ 6 _) h36 rfl rfl rfl all0 NewAny.stable all0 (all1 NewAny.newT)
     case hx => exact fun X hX hΦ => lv_any (ex_alloc (z := .agg #[.int .i64 0, .int .i64 0, .bool false, .bool false, .slice none 0 0, .slice none 0 0]) (by kernel_rfl)) hX.size rfl
     intro v10 a37 h37
     apply nm_store (k := 9) (deps := [1, 3, 4, 5, 6, 8]) (kx := 8) (x := 10) (y := 44) (Y := slotY 44) h37 rfl ⟨rfl, rfl⟩ rfl all0 ⟨rfl, rfl⟩ (h37.slot 44 _ rfl) (slotY_dep (ky := 6) ⟨rfl, rfl⟩) rfl rfl (n := 6) (by kernel_rfl) all0
     case hx =>
      intro X hX hΦ
      obtain ⟨_, e1, _⟩ := (told_get (k := 4) hΦ rfl rfl)
      subst e1
      obtain rfl := MovS.get h33 rfl (told_get (k := 5) hΦ rfl rfl)
      obtain rfl := ExtS.get h34 rfl rfl (told_get (k := 6) hΦ rfl rfl)
      exact ⟨(told_get (k := 8) hΦ rfl rfl), rfl, rfl⟩
     intro vs9
     refine nm_end (O := (fun _ => False)) all0 fun X38 hX38 hΦ38 => ?_
     have qt43 := told_all hΦ38 (k := 4) rfl
     obtain ⟨⟨⟨A43, c43⟩, B43, e43⟩, rfl, q1, q2⟩ := qt43
     obtain rfl := MovS.get h33 rfl (told_all hΦ38 (k := 5) rfl)
     obtain rfl := ExtS.get h34 rfl rfl (told_all hΦ38 (k := 6) rfl)
     obtain rfl := ExtS.get h35 rfl rfl (told_all hΦ38 (k := 7) rfl)
     obtain ⟨b10, rfl, gb10, qb10⟩ := StoY.slot (v := vs9) h37 rfl rfl (told_all hΦ38 (k := 9) rfl)
     have S38 := St.dsc1 S28 (Grw.below hX38) q1 q2 qb10 gb10 (by decide)
     refine ma h37 fun a39 h39 => ?_
     refine st_nil (go_then (st_seq ?_))
     apply dr_flowM h39 (fun _ => False) [] [(11, 24)] [false, true, false, true, false, true, true, true, true, true, true, true] _ (by kernel_rfl) all0
     case h =>
      refine qv (v := dscV d A1 A2 c1 c2) h39 (fun X hX => ex_loads (by kernel_rfl) (by kernel_rfl) (h39.ev rfl) ((S38.grow (Grw.below hX)).cellsAll (i := 4) rfl)) fun a40 h40 => ?_
      refine qv (v := dscV y B1 B2 b1 b2) h40 (fun X hX => ex_loads (by kernel_rfl) (by kernel_rfl) (h40.ev rfl) ((S38.grow (Grw.below hX)).cellsAll (i := 3) rfl)) fun a41 h41 => ?_
      refine qv (v := tokV t A c) h41 (fun X hX => ex_loads (by kernel_rfl) (by kernel_rfl) (h41.ev rfl) ((S38.grow (Grw.below hX)).cellsAll (i := 5) rfl)) fun a42 h42 => ?_
      refine sq_nil ?_
      apply nm_step (O := (fun _ => False)) (k := 1) (deps := []) (R := TelI (cpV d) (OwJ d X38.heap.size)) h42 rfl rfl rfl all0 (TelI.stable OwJ.grow) all0 (all1 (TelI.newT (OwJ.newT (by decide))))
      case hx => exact fun X hX hΦ => lv_tel (ex_call (fun _ _ => by kernel_rfl) (h42.evs rfl) rfl) (copy_ow d A1 A2 c1 c2 X38.heap.size _ hX.size hl1 hl2 ((S38.grow (Grw.below hX)).rd0 hr1) ((S38.grow (Grw.below hX)).rd0 hr2))
      intro v48 a43 h43
      apply nm_step (O := (fun _ => False)) (k := 3) (deps := []) (R := TelI (cpV y) (OwJ y X38.heap.size)) h43 rfl rfl rfl all0 (TelI.stable OwJ.grow) all0 (all1 (TelI.newT (OwJ.newT (by decide))))
      case hx => exact fun X hX hΦ => lv_tel (ex_call (fun _ _ => by kernel_rfl) (h43.evs rfl) rfl) (copy_ow y B1 B2 b1 b2 X38.heap.size _ hX.size hk1 hk2 ((S38.grow (Grw.below hX)).rd0 hs1) ((S38.grow (Grw.below hX)).rd0 hs2))
      intro v50 a44 h44
      apply nm_step (O := (fun _ => False)) (k := 5) (deps := []) (R := TelI (tcV t) (OwT t X38.heap.size)) h44 rfl rfl rfl all0 (TelI.stable OwT.grow) all0 (all1 (TelI.newT (OwT.newT (by decide))))
      case hx => exact fun X hX hΦ => lv_tel (ex_call (fun _ _ => by kernel_rfl) (h44.evs rfl) rfl) (ctok_ow t A c X38.heap.size _ hX.size (by omega) ((S38.grow (Grw.below hX)).rd0 hr3))
      intro v52 a45 h45
      apply nm_step (O := (fun _ => False)) (k := 6) (deps := [1, 3, 5]) (R := TelI (rpI d y t) (OwJ (rplO d y t) X38.heap.size)) h45 rfl rfl rfl all0 (TelI.stable OwJ.grow) all0 (all1 (TelI.newT (OwJ.newT (by decide))))
      case hx => exact fun X hX hΦ => (by obtain ⟨i1, rfl, g1, g2⟩ := (told_get (k := 1) hΦ rfl rfl); obtain ⟨i3, rfl, g4, g5⟩ := (told_get (k := 3) hΦ rfl rfl); obtain ⟨i2, rfl, g3⟩ := (told_get (k := 5) hΦ rfl rfl); exact lv_tel (ex_call (fun _ _ => by kernel_rfl) (h45.evs rfl) rfl) (repl_ow d y t i1.1.1 i1.2.1 i3.1.1 i3.2.1 i2.1 i1.1.2 i1.2.2 i3.1.2 i3.2.2 i2.2 X38.heap.size _ hX.size ⟨hl1, hl2, hl3, Rd.of_own g1, Rd.of_own g2, Rd.of_own g3, hg.below (S38.grow (Grw.below hX)).below⟩ ⟨hk1, hk2, hl3, Rd.of_own g4, Rd.of_own g5, Rd.of_own g3, hg.below (S38.grow (Grw.below hX)).below⟩))
      intro v53 a46 h46
      apply nm_mov (k := 7) (deps := [1, 3, 5, 6]) (kx := 6) (src := 53) h46 rfl (.inl rfl) rfl rfl ⟨rfl, rfl⟩ rfl
      intro v46 a47 h47
      apply nm_ext (k := 8) (deps := [1, 3, 5, 6, 7]) (kx := 7) (src := 46) (i := 0) h47 rfl rfl rfl rfl ⟨rfl, rfl⟩ rfl
      case hx =>
       intro X hΦ
       obtain ⟨_, e1, _⟩ := (told_get (k := 6) hΦ rfl rfl)
       exact ⟨_, _, ((MovS.get h46 rfl (told_get (k := 7) hΦ rfl rfl)).trans e1), rfl⟩
      intro v54 a48 h48
      apply nm_ext (k := 9) (deps := [1, 3, 5, 6, 7]) (kx := 7) (src := 46) (i := 1) h48 rfl rfl rfl rfl ⟨rfl, rfl⟩ rfl
      case hx =>
       intro X hΦ
       obtain ⟨_, e1, _⟩ := (told_get (k := 6) hΦ rfl rfl)
       exact ⟨_, _, ((MovS.get h46 rfl (told_get (k := 7) hΦ rfl rfl)).trans e1), rfl⟩
      intro v55 a49 h49
      apply nm_step (O := (fun _ => False)) (k := 10) (deps := []) (R := NewAny _ 6 _) h49 rfl rfl rfl all0 NewAny.stable all0 (all1 NewAny.newT)
      case hx => exact fun X hX hΦ => lv_any (ex_alloc (z := .agg #[.int .i64 0, .int .i64 0, .bool false, .bool false, .slice none 0 0, .slice none 0 0]) (by kernel_rfl)) hX.size rfl
      intro v12 a50 h50
      apply nm_store (k := 11) (deps := [1, 3, 5, 6, 7, 8, 10]) (kx := 10) (x := 12) (y := 54) (Y := slotY 54) h50 rfl ⟨rfl, rfl⟩ rfl all0 ⟨rfl, rfl⟩ (h50.slot 54 _ rfl) (slotY_dep (ky := 8) ⟨rfl, rfl⟩) rfl rfl (n := 6) (by kernel_rfl) all0
      case hx =>
       intro X hX hΦ
       obtain ⟨_, e1, _⟩ := (told_get (k := 6) hΦ rfl rfl)
       subst e1
       obtain rfl := MovS.get h46 rfl (told_get (k := 7) hΦ rfl rfl)
       obtain rfl := ExtS.get h47 rfl rfl (told_get (k := 8) hΦ rfl rfl)
       exact ⟨(told_get (k := 10) hΦ rfl rfl), rfl, rfl⟩
      intro vs11
      refine nm_end (O := (fun _ => False)) all0 fun X51 hX51 hΦ51 => ?_
      have qt53 := told_all hΦ51 (k := 6) rfl
      obtain ⟨⟨⟨A53, c53⟩, B53, e53⟩, rfl, q3, q4⟩ := qt53
      obtain rfl := MovS.get h46 rfl (told_all hΦ51 (k := 7) rfl)
      obtain rfl := ExtS.get h47 rfl rfl (told_all hΦ51 (k := 8) rfl)
      obtain rfl := ExtS.get h48 rfl rfl (told_all hΦ51 (k := 9) rfl)
      obtain ⟨b12, rfl, gb12, qb12⟩ := StoY.slot (v := vs11) h50 rfl rfl (told_all hΦ51 (k := 11) rfl)
      have S51 := St.dsc1 S38 (Grw.below hX51) q3 q4 qb12 gb12 (by decide)
      refine ma h50 fun a52 h52 => ?_
      refine st_nil (go_then (st_seq ?_))
      apply dr_flowM h52 (fun _ => False) [] [(10, 24)] [false, true, false, true, false, true, true, true, true, true, true] _ (by kernel_rfl) all0
      case h =>
       refine qv (v := dscV d A1 A2 c1 c2) h52 (fun X hX => ex_loads (by kernel_rfl) (by kernel_rfl) (h52.ev rfl) ((S51.grow (Grw.below hX)).cellsAll (i := 6) rfl)) fun a53 h53 => ?_
       refine qv (v := tokV t A c) h53 (fun X hX => ex_loads (by kernel_rfl) (by kernel_rfl) (h53.ev rfl) ((S51.grow (Grw.below hX)).cellsAll (i := 7) rfl)) fun a54 h54 => ?_
       refine qv h54 (fun X hX => ex_move (h54.ev rfl)) fun a55 h55 => ?_
       refine sq_nil ?_
       apply nm_step (O := (fun _ => False)) (k := 1) (deps := []) (R := TelI (cpV d) (OwJ d X51.heap.size)) h55 rfl rfl rfl all0 (TelI.stable OwJ.grow) all0 (all1 (TelI.newT (OwJ.newT (by decide))))
       case hx => exact fun X hX hΦ => lv_tel (ex_call (fun _ _ => by kernel_rfl) (h55.evs rfl) rfl) (copy_ow d A1 A2 c1 c2 X51.heap.size _ hX.size hl1 hl2 ((S51.grow (Grw.below hX)).rd0 hr1) ((S51.grow (Grw.below hX)).rd0 hr2))
       intro v58 a56 h56
       apply nm_step (O := (fun _ => False)) (k := 3) (deps := []) (R := TelI (tcV t) (OwT t X51.heap.size)) h56 rfl rfl rfl all0 (TelI.stable OwT.grow) all0 (all1 (TelI.newT (OwT.newT (by decide))))
       case hx => exact fun X hX hΦ => lv_tel (ex_call (fun _ _ => by kernel_rfl) (h56.evs rfl) rfl) (ctok_ow t A c X51.heap.size _ hX.size (by omega) ((S51.grow (Grw.below hX)).rd0 hr3))
       intro v60 a57 h57
       apply nm_step (O := (fun _ => False)) (k := 5) (deps := [1, 3]) (R := TelI (crI d t dir) (OwJ (crtO d t dir) X51.heap.size)) h57 rfl rfl rfl all0 (TelI.stable OwJ.grow) all0 (all1 (TelI.newT (OwJ.newT (by decide))))
       case hx => exact fun X hX hΦ => (by obtain ⟨i1, rfl, g1, g2⟩ := (told_get (k := 1) hΦ rfl rfl); obtain ⟨i2, rfl, g3⟩ := (told_get (k := 3) hΦ rfl rfl); exact lv_tel (ex_call (fun _ _ => by kernel_rfl) (h57.evs rfl) rfl) (crea_ow d t dir i1.1.1 i1.2.1 i2.1 i1.1.2 i1.2.2 i2.2 X51.heap.size _ hX.size ⟨hl1, hl2, hl3, Rd.of_own g1, Rd.of_own g2, Rd.of_own g3, hg.below (S51.grow (Grw.below hX)).below⟩))
       intro v62 a58 h58
       apply nm_mov (k := 6) (deps := [1, 3, 5]) (kx := 5) (src := 62) h58 rfl (.inl rfl) rfl rfl ⟨rfl, rfl⟩ rfl
       intro v56 a59 h59
       apply nm_ext (k := 7) (deps := [1, 3, 5, 6]) (kx := 6) (src := 56) (i := 0) h59 rfl rfl rfl rfl ⟨rfl, rfl⟩ rfl
       case hx =>
        intro X hΦ
        obtain ⟨_, e1, _⟩ := (told_get (k := 5) hΦ rfl rfl)
        exact ⟨_, _, ((MovS.get h58 rfl (told_get (k := 6) hΦ rfl rfl)).trans e1), rfl⟩
       intro v63 a60 h60
       apply nm_ext (k := 8) (deps := [1, 3, 5, 6]) (kx := 6) (src := 56) (i := 1) h60 rfl rfl rfl rfl ⟨rfl, rfl⟩ rfl
       case hx =>
        intro X hΦ
        obtain ⟨_, e1, _⟩ := (told_get (k := 5) hΦ rfl rfl)
        exact ⟨_, _, ((MovS.get h58 rfl (told_get (k := 6) hΦ rfl rfl)).trans e1), rfl⟩
       intro v64 a61 h61
       apply nm_step (O := (fun _ => False)) (k := 9) (deps := []) (R := NewAny _ 6 _) h61 rfl rfl rfl all0 NewAny.stable all0 (all1 NewAny.newT)
       case hx => exact fun X hX hΦ => lv_any (ex_alloc (z := .agg #[.int .i64 0, .int .i64 0, .bool false, .bool false, .slice none 0 0, .slice none 0 0]) (by kernel_rfl)) hX.size rfl
       intro v14 a62 h62
       apply nm_store (k := 10) (deps := [1, 3, 5, 6, 7, 9]) (kx := 9) (x := 14) (y := 63) (Y := slotY 63) h62 rfl ⟨rfl, rfl⟩ rfl all0 ⟨rfl, rfl⟩ (h62.slot 63 _ rfl) (slotY_dep (ky := 7) ⟨rfl, rfl⟩) rfl rfl (n := 6) (by kernel_rfl) all0
       case hx =>
        intro X hX hΦ
        obtain ⟨_, e1, _⟩ := (told_get (k := 5) hΦ rfl rfl)
        subst e1
        obtain rfl := MovS.get h58 rfl (told_get (k := 6) hΦ rfl rfl)
        obtain rfl := ExtS.get h59 rfl rfl (told_get (k := 7) hΦ rfl rfl)
        exact ⟨(told_get (k := 9) hΦ rfl rfl), rfl, rfl⟩
       intro vs10
       refine nm_end (O := (fun _ => False)) all0 fun X63 hX63 hΦ63 => ?_
       have qt62 := told_all hΦ63 (k := 5) rfl
       obtain ⟨⟨⟨A62, c62⟩, B62, e62⟩, rfl, q5, q6⟩ := qt62
       obtain rfl := MovS.get h58 rfl (told_all hΦ63 (k := 6) rfl)
       obtain rfl := ExtS.get h59 rfl rfl (told_all hΦ63 (k := 7) rfl)
       obtain rfl := ExtS.get h60 rfl rfl (told_all hΦ63 (k := 8) rfl)
       obtain ⟨b14, rfl, gb14, qb14⟩ := StoY.slot (v := vs10) h62 rfl rfl (told_all hΦ63 (k := 10) rfl)
       have S63 := St.dsc1 S51 (Grw.below hX63) q5 q6 qb14 gb14 (by decide)
       refine ma h62 fun a64 h64 => ?_
       refine nsr ?_
       refine sv (v := dscV d A1 A2 c1 c2) h64 (ex_loads (by kernel_rfl) (by kernel_rfl) (h64.ev rfl) (S63.cellsAll (i := 8) rfl)) fun a65 h65 => ?_
       refine sv (v := tokV t A c) h65 (ex_loads (by kernel_rfl) (by kernel_rfl) (h65.ev rfl) (S63.cellsAll (i := 9) rfl)) fun a66 h66 => ?_
       refine sl_bel h66 (wn rfl) (ex_call (fun _ _ => by kernel_rfl) (h66.evs rfl) rfl) rfl rfl S63 (bothErr_any d t A1 A2 A c1 c2 c _ ⟨hl1, hl2, hl3, S63.rd0 hr1, S63.rd0 hr2, S63.rd0 hr3, hg.below S63.below⟩) fun a67 X67 h67 S67 => ?_
       refine ma h67 fun a68 h68 => ?_
       refine st_nil (go_then (st_seq (st_seq (st_reg ?_))))
       refine mv h68 fun a69 h69 => ?_
       refine sv h69 (ex_neq (h69.ev rfl) (h69.ev rfl)) fun a70 h70 => ?_
       refine mv h70 fun a71 h71 => ?_
       apply sl_and h71 S67 70 rfl 21 91
       case ht =>
        intro gc70
        have hbn : botE d t ≠ 0 := by simpa using gc70
        have hk0 := (tk_none hbn).2
        have hk9 := (cr_none dir hbn).2
        refine sy h71 (ex_move (h71.ev rfl)) fun a72 h72 => ?_
        refine sy h72 (ex_move (h72.ev rfl)) fun a73 h73 => ?_
        refine sy h73 (ex_neq (h73.ev rfl) (h73.ev rfl)) fun a74 h74 => ?_
        refine sy h74 (ex_move (h74.ev rfl)) fun a75 h75 => ?_
        apply sl_or h75 S67 74 rfl 4 78
        case hf =>
         intro gc74
         refine sy h75 (ex_move (h75.ev rfl)) fun a76 h76 => ?_
         refine sy h76 (ex_move (h76.ev rfl)) fun a77 h77 => ?_
         refine sy h77 (ex_neq (h77.ev rfl) (h77.ev rfl)) fun a78 h78 => ?_
         refine sy h78 (ex_pick_f (h78.ev rfl) gc74 (h78.ev rfl)) fun a79 h79 => ?_
         exact st_nil ⟨h79.mid (m := [(_, _), (_, _), (_, _)]) rfl, S67⟩
        case ht =>
         intro gc74
         refine no h75 fun a80 h80 => ?_
         refine no h80 fun a81 h81 => ?_
         refine no h81 fun a82 h82 => ?_
         refine sy h82 (ex_pick_t (h82.ev rfl) gc74 (h82.ev rfl)) fun a83 h83 => ?_
         exact st_nil ⟨h83.mid (m := [(_, _), (_, _), (_, _)]) rfl, S67⟩
        case h =>
         rintro a84 X84 ⟨h84, S84⟩
         refine sy h84 (ex_move (h84.ev rfl)) fun a85 h85 => ?_
         apply sl_or h85 S84 79 rfl 5 84
         case hf =>
          intro gc79
          refine sl_val (v := dscV (tkO d t) A43 B43 c43 e43) h85 (wanted_yes h85 _ rfl rfl rfl gc79) (ex_loads (by kernel_rfl) (by kernel_rfl) (h85.ev rfl) (S84.cellsAll (i := 4) rfl)) rfl rfl fun a86 h86 => ?_
          refine sl_val (v := dscV zD none none 0 0) h86 (wanted_yes h86 _ rfl rfl rfl gc79) (ex_loads (by kernel_rfl) (by kernel_rfl) (h86.ev rfl) (S84.cellsAll (i := 6) rfl)) rfl rfl fun a87 h87 => ?_
          refine sl_bel h87 (wanted_yes h87 _ rfl rfl rfl gc79) (ex_call (fun _ _ => by kernel_rfl) (h87.evs rfl) rfl) rfl rfl S84 (SameD_eq (tkO d t) zD hk0 A43 B43 none none c43 e43 0 0 _ hT1 hT2 (S84.row2 (i := 5) rfl).1 (S84.row2 (i := 5) rfl).2 (Rd.nil _ _ _) (Rd.nil _ _ _)) fun a88 X88 h88 S88 => ?_
          refine sy h88 (ex_not (h88.ev rfl)) fun a89 h89 => ?_
          refine sy h89 (ex_pick_f (h89.ev rfl) gc79 (h89.ev rfl)) fun a90 h90 => ?_
          exact st_nil ⟨h90.mid (m := [(_, _), (_, _), (_, _), (_, _)]) rfl, S88⟩
         case ht =>
          intro gc79
          refine no h85 fun a91 h91 => ?_
          refine no h91 fun a92 h92 => ?_
          refine no h92 fun a93 h93 => ?_
          refine no h93 fun a94 h94 => ?_
          refine sy h94 (ex_pick_t (h94.ev rfl) gc79 (h94.ev rfl)) fun a95 h95 => ?_
          exact st_nil ⟨h95.mid (m := [(_, _), (_, _), (_, _), (_, _)]) rfl, S84⟩
         case h =>
          rintro a96 X96 ⟨h96, S96⟩
          refine sy h96 (ex_move (h96.ev rfl)) fun a97 h97 => ?_
          apply sl_or h97 S96 85 rfl 5 90
          case hf =>
           intro gc85
           refine sl_val (v := dscV (crtO d t dir) A62 B62 c62 e62) h97 (wanted_yes h97 _ rfl rfl rfl gc85) (ex_loads (by kernel_rfl) (by kernel_rfl) (h97.ev rfl) (S96.cellsAll (i := 0) rfl)) rfl rfl fun a98 h98 => ?_
           refine sl_val (v := dscV zD none none 0 0) h98 (wanted_yes h98 _ rfl rfl rfl gc85) (ex_loads (by kernel_rfl) (by kernel_rfl) (h98.ev rfl) (S96.cellsAll (i := 6) rfl)) rfl rfl fun a99 h99 => ?_
           refine sl_bel h99 (wanted_yes h99 _ rfl rfl rfl gc85) (ex_call (fun _ _ => by kernel_rfl) (h99.evs rfl) rfl) rfl rfl S96 (SameD_eq (crtO d t dir) zD hk9 A62 B62 none none c62 e62 0 0 _ hC5 hC6 (S96.row2 (i := 1) rfl).1 (S96.row2 (i := 1) rfl).2 (Rd.nil _ _ _) (Rd.nil _ _ _)) fun a100 X100 h100 S100 => ?_
           refine sy h100 (ex_not (h100.ev rfl)) fun a101 h101 => ?_
           refine sy h101 (ex_pick_f (h101.ev rfl) gc85 (h101.ev rfl)) fun a102 h102 => ?_
           exact st_nil ⟨h102.mid (m := [(_, _), (_, _), (_, _), (_, _)]) rfl, S100⟩
          case ht =>
           intro gc85
           refine no h97 fun a103 h103 => ?_
           refine no h103 fun a104 h104 => ?_
           refine no h104 fun a105 h105 => ?_
           refine no h105 fun a106 h106 => ?_
           refine sy h106 (ex_pick_t (h106.ev rfl) gc85 (h106.ev rfl)) fun a107 h107 => ?_
           exact st_nil ⟨h107.mid (m := [(_, _), (_, _), (_, _), (_, _)]) rfl, S96⟩
          case h =>
           rintro a108 X108 ⟨h108, S108⟩
           refine sv h108 (ex_pick_t (h108.ev rfl) gc70 (h108.ev rfl)) fun a109 h109 => ?_
           exact st_nil ⟨h109.mid (m := [(_, _), (_, _), (_, _), (_, _), (_, _), (_, _), (_, _), (_, _), (_, _)]) rfl, S108⟩
       case hf =>
        intro gc70
        refine no h71 fun a110 h110 => ?_
        refine no h110 fun a111 h111 => ?_
        refine no h111 fun a112 h112 => ?_
        refine no h112 fun a113 h113 => ?_
        refine sl_no h113 (wanted_not h113 _ rfl rfl rfl) rfl rfl fun a114 h114 => ?_
        refine sl_no h114 (wanted_not h114 _ rfl rfl rfl) rfl rfl fun a115 h115 => ?_
        refine sl_no h115 (wanted_not h115 _ rfl rfl rfl) rfl rfl fun a116 h116 => ?_
        refine no h116 fun a117 h117 => ?_
        refine no h117 fun a118 h118 => ?_
        refine sl_no h118 (wanted_not h118 _ rfl rfl rfl) rfl rfl fun a119 h119 => ?_
        refine sl_no h119 (wanted_not h119 _ rfl rfl rfl) rfl rfl fun a120 h120 => ?_
        refine sl_no h120 (wanted_not h120 _ rfl rfl rfl) rfl rfl fun a121 h121 => ?_
        refine sl_no h121 (wanted_not h121 _ rfl rfl rfl) rfl rfl fun a122 h122 => ?_
        refine no h122 fun a123 h123 => ?_
        refine no h123 fun a124 h124 => ?_
        refine sl_no h124 (wanted_not h124 _ rfl rfl rfl) rfl rfl fun a125 h125 => ?_
        refine sl_no h125 (wanted_not h125 _ rfl rfl rfl) rfl rfl fun a126 h126 => ?_
        refine sl_no h126 (wanted_not h126 _ rfl rfl rfl) rfl rfl fun a127 h127 => ?_
        refine sl_no h127 (wanted_not h127 _ rfl rfl rfl) rfl rfl fun a128 h128 => ?_
        refine no h128 fun a129 h129 => ?_
        refine sv h129 (ex_pick_f (h129.ev rfl) gc70 (h129.ev rfl)) fun a130 h130 => ?_
        exact st_nil ⟨h130.mid (m := [(_, _), (_, _), (_, _), (_, _), (_, _), (_, _), (_, _), (_, _), (_, _), (_, _), (_, _), (_, _), (_, _), (_, _), (_, _), (_, _), (_, _), (_, _), (_, _), (_, _)]) rfl, S67⟩
       case h =>
        rintro a131 X131 ⟨h131, S131⟩
        refine st_nil (go_then ?_)
        refine st_if_f (h131.ev rfl) ((by by_cases q : botE d t = 0; (rw [q]; rfl); (rw [(tk_none q).1, (cr_none dir q).1]; simp))) ?_
        refine wp_skip (go_then (st_seq (st_seq (st_reg ?_))))
        refine mv h131 fun a132 h132 => ?_
        refine sv h132 (ex_eql (h132.ev rfl) (h132.ev rfl)) fun a133 h133 => ?_
        refine st_nil (go_then ?_)
        refine st_joinH h133 S131 [] [16, 13, 12, 9, 8, 7, 4] ?_ (fun a134 X134 h134 S134 => ?_)
        ·
         refine st_if (h133.ev rfl) (fun hc3 => ?_) (fun hc3 => ?_)
         ·
          have hb0 : botE d t = 0 := by simpa using hc3
          obtain ⟨hz1, hz2⟩ := botE_zero hb0
          obtain ⟨_, _, _, _, _, hok, _⟩ := dscE_zero hz1
          obtain ⟨_, _, _, ht4, ht5⟩ := tokE_zero hz2
          have hdo : dtO d t := ⟨fun a ha => (aceO_of (hok a ha).1).1, ht4, ht5⟩
          obtain ⟨ht0, ht1, ht2⟩ := tk_some hb0
          obtain ⟨hx0, hx1⟩ := cr_some dir hb0
          refine st_seq (st_reg ?_)
          refine sv (v := dscV d A1 A2 c1 c2) h133 (ex_loads (by kernel_rfl) (by kernel_rfl) (h133.ev rfl) (S131.cellsAll (i := 8) rfl)) fun a135 h135 => ?_
          refine sv (v := tokV t A c) h135 (ex_loads (by kernel_rfl) (by kernel_rfl) (h135.ev rfl) (S131.cellsAll (i := 9) rfl)) fun a136 h136 => ?_
          refine sl_bel h136 (wn rfl) (ex_call (fun _ _ => by kernel_rfl) (h136.evs rfl) rfl) rfl rfl S131 (By_any d t A1 A2 A c1 c2 c 8 _ ⟨hl1, hl2, hl3, S131.rd0 hr1, S131.rd0 hr2, S131.rd0 hr3, hg.below S131.below⟩ hdo (by decide)) fun a137 X137 h137 S137 => ?_
          refine mv h137 fun a138 h138 => ?_
          refine vx h138 fun a139 h139 => ?_
          refine vx h139 fun a140 h140 => ?_
          refine maa h140 fun a142 h142 => ?_
          refine nsr ?_
          refine sv (v := dscV d A1 A2 c1 c2) h142 (ex_loads (by kernel_rfl) (by kernel_rfl) (h142.ev rfl) (S137.cellsAll (i := 8) rfl)) fun a143 h143 => ?_
          refine sl_more h143 (wn rfl) (ex_call (fun _ _ => by kernel_rfl) (h143.evs rfl) rfl) rfl rfl S137 (CopyDsc_rd d A1 A2 c1 c2 _ hl1 hl2 (S137.rd0 hr1) (S137.rd0 hr2)) fun p101 a144 X144 h144 S144 => ?_
          refine na (.agg #[.int .i64 0, .int .i64 0, .bool false, .bool false, .slice none 0 0, .slice none 0 0]) h144 rfl S144 fun b19 a145 X145 gb19 h145 S145 => ?_
          refine sw h145 S145 0 fun X146 S146 => ?_
          refine nsr ?_
          refine vf h145 0 0 fun a147 h147 => ?_
          refine vl h147 S146 11 fun a148 h148 => ?_
          refine vf h148 0 0 fun a149 h149 => ?_
          refine sl_store h149 (wn rfl) ⟨rfl, rfl⟩ (h149.ev rfl) (h149.ev rfl) rfl (by kernel_rfl) S146 (i := 0) rfl rfl rfl fun X150 S150 => ?_
          refine st_nil (go_then (st_seq (st_seq (st_reg ?_))))
          refine mvv h149 fun a152 h152 => ?_
          apply sl_and h152 S150 106 rfl 16 122
          case ht =>
           intro gc106
           have hm8 : grtB d t 8 = true := gc106
           have hto := ht1 hm8
           refine sy h152 (ex_move (h152.ev rfl)) fun a153 h153 => ?_
           refine sy h153 (ex_neq (h153.ev rfl) (h153.ev rfl)) fun a154 h154 => ?_
           refine sy h154 (ex_move (h154.ev rfl)) fun a155 h155 => ?_
           apply sl_or h155 S150 109 rfl 5 114
           case hf =>
            intro gc109
            refine sl_val (v := dscV (tkO d t) A43 B43 c43 e43) h155 (wanted_yes h155 _ rfl rfl rfl gc109) (ex_loads (by kernel_rfl) (by kernel_rfl) (h155.ev rfl) (S150.cellsAll (i := 6) rfl)) rfl rfl fun a156 h156 => ?_
            refine sl_val (v := dscV { d with o := t.u } p101.1.1 p101.2.1.1 p101.1.2 p101.2.1.2) h156 (wanted_yes h156 _ rfl rfl rfl gc109) (ex_loads (by kernel_rfl) (by kernel_rfl) (h156.ev rfl) (S150.cellsAll (i := 0) rfl)) rfl rfl fun a157 h157 => ?_
            refine sl_bel h157 (wanted_yes h157 _ rfl rfl rfl gc109) (ex_call (fun _ _ => by kernel_rfl) (h157.evs rfl) rfl) rfl rfl S150 (SameD_eq (tkO d t) { d with o := t.u } hto A43 B43 p101.1.1 p101.2.1.1 c43 e43 p101.1.2 p101.2.1.2 _ hT1 hT2 (S150.row2 (i := 7) rfl).1 (S150.row2 (i := 7) rfl).2 (S150.rd2 (i := 1) rfl).1 (S150.rd2 (i := 1) rfl).2) fun a158 X158 h158 S158 => ?_
            refine sy h158 (ex_not (h158.ev rfl)) fun a159 h159 => ?_
            refine sy h159 (ex_pick_f (h159.ev rfl) gc109 (h159.ev rfl)) fun a160 h160 => ?_
            exact st_nil ⟨h160.mid (m := [(_, _), (_, _), (_, _), (_, _)]) rfl, S158⟩
           case ht =>
            intro gc109
            refine no h155 fun a161 h161 => ?_
            refine no h161 fun a162 h162 => ?_
            refine no h162 fun a163 h163 => ?_
            refine no h163 fun a164 h164 => ?_
            refine sy h164 (ex_pick_t (h164.ev rfl) gc109 (h164.ev rfl)) fun a165 h165 => ?_
            exact st_nil ⟨h165.mid (m := [(_, _), (_, _), (_, _), (_, _)]) rfl, S150⟩
           case h =>
            rintro a166 X166 ⟨h166, S166⟩
            refine sy h166 (ex_move (h166.ev rfl)) fun a167 h167 => ?_
            apply sl_or h167 S166 115 rfl 6 121
            case hf =>
             intro gc115
             refine sl_val (v := dscV (tkO d t) A43 B43 c43 e43) h167 (wanted_yes h167 _ rfl rfl rfl gc115) (ex_loads (by kernel_rfl) (by kernel_rfl) (h167.ev rfl) (S166.cellsAll (i := 6) rfl)) rfl rfl fun a168 h168 => ?_
             refine sl_val (v := tokV t A c) h168 (wanted_yes h168 _ rfl rfl rfl gc115) (ex_loads (by kernel_rfl) (by kernel_rfl) (h168.ev rfl) (S166.cellsAll (i := 11) rfl)) rfl rfl fun a169 h169 => ?_
             refine sl_bel h169 (wanted_yes h169 _ rfl rfl rfl gc115) (ex_call (fun _ _ => by kernel_rfl) (h169.evs rfl) rfl) rfl rfl S166 (refRights_any (tkO d t) t A43 B43 A c43 e43 c _ ⟨hT1, hT2, hl3, (S166.row2 (i := 7) rfl).1, (S166.row2 (i := 7) rfl).2, S166.rd0 hr3, hg.below S166.below⟩ (by rw [hto]; exact hdo)) fun a170 X170 h170 S170 => ?_
             refine sy h170 (ex_bits (r := 192) rfl (h170.ev rfl) (h170.ev rfl) (by rw [hto]; exact own_192 d t)) fun a171 h171 => ?_
             refine sy h171 (ex_neq (h171.ev rfl) (h171.ev rfl)) fun a172 h172 => ?_
             refine sy h172 (ex_pick_f (h172.ev rfl) gc115 (h172.ev rfl)) fun a173 h173 => ?_
             exact st_nil ⟨h173.mid (m := [(_, _), (_, _), (_, _), (_, _), (_, _)]) rfl, S170⟩
            case ht =>
             intro gc115
             refine no h167 fun a174 h174 => ?_
             refine no h174 fun a175 h175 => ?_
             refine no h175 fun a176 h176 => ?_
             refine no h176 fun a177 h177 => ?_
             refine no h177 fun a178 h178 => ?_
             refine sy h178 (ex_pick_t (h178.ev rfl) gc115 (h178.ev rfl)) fun a179 h179 => ?_
             exact st_nil ⟨h179.mid (m := [(_, _), (_, _), (_, _), (_, _), (_, _)]) rfl, S166⟩
            case h =>
             rintro a180 X180 ⟨h180, S180⟩
             refine sv h180 (ex_pick_t (h180.ev rfl) gc106 (h180.ev rfl)) fun a181 h181 => ?_
             exact st_nil ⟨h181.mid (m := [(_, _), (_, _), (_, _), (_, _), (_, _), (_, _)]) rfl, S180⟩
          case hf =>
           intro gc106
           refine no h152 fun a182 h182 => ?_
           refine no h182 fun a183 h183 => ?_
           refine no h183 fun a184 h184 => ?_
           refine sl_no h184 (wanted_not h184 _ rfl rfl rfl) rfl rfl fun a185 h185 => ?_
           refine sl_no h185 (wanted_not h185 _ rfl rfl rfl) rfl rfl fun a186 h186 => ?_
           refine sl_no h186 (wanted_not h186 _ rfl rfl rfl) rfl rfl fun a187 h187 => ?_
           refine sl_no h187 (wanted_not h187 _ rfl rfl rfl) rfl rfl fun a188 h188 => ?_
           refine no h188 fun a189 h189 => ?_
           refine no h189 fun a190 h190 => ?_
           refine sl_no h190 (wanted_not h190 _ rfl rfl rfl) rfl rfl fun a191 h191 => ?_
           refine sl_no h191 (wanted_not h191 _ rfl rfl rfl) rfl rfl fun a192 h192 => ?_
           refine sl_no h192 (wanted_not h192 _ rfl rfl rfl) rfl rfl fun a193 h193 => ?_
           refine sl_no h193 (wanted_not h193 _ rfl rfl rfl) rfl rfl fun a194 h194 => ?_
           refine sl_no h194 (wanted_not h194 _ rfl rfl rfl) rfl rfl fun a195 h195 => ?_
           refine no h195 fun a196 h196 => ?_
           refine sv h196 (ex_pick_f (h196.ev rfl) gc106 (h196.ev rfl)) fun a197 h197 => ?_
           exact st_nil ⟨h197.mid (m := [(_, _), (_, _), (_, _), (_, _), (_, _), (_, _), (_, _), (_, _), (_, _), (_, _), (_, _), (_, _), (_, _), (_, _), (_, _)]) rfl, S150⟩
          case h =>
           rintro a198 X198 ⟨h198, S198⟩
           refine mv h198 fun a199 h199 => ?_
           apply sl_or (x := (!grtB d t 8 && ((tkE d t != 27) || false))) h199 S198 123 rfl 13 136
           case hf =>
            intro gc123
            refine sy h199 (ex_move (h199.ev rfl)) fun a200 h200 => ?_
            refine sy h200 (ex_not (h200.ev rfl)) fun a201 h201 => ?_
            refine sy h201 (ex_move (h201.ev rfl)) fun a202 h202 => ?_
            apply sl_and (x := ((tkE d t != 27) || false)) h202 S198 126 rfl 9 135
            case ht =>
             intro gc126
             have hm0 : grtB d t 8 = false := by simpa using gc126
             have hto := ht2 hm0
             refine sy h202 (ex_move (h202.ev rfl)) fun a203 h203 => ?_
             refine sy h203 (ex_neq (h203.ev rfl) (h203.ev rfl)) fun a204 h204 => ?_
             refine sy h204 (ex_move (h204.ev rfl)) fun a205 h205 => ?_
             apply sl_or (x := false) h205 S198 129 rfl 5 134
             case hf =>
              intro gc129
              refine sl_val (v := dscV (tkO d t) A43 B43 c43 e43) h205 (wanted_yes h205 _ rfl rfl rfl gc129) (ex_loads (by kernel_rfl) (by kernel_rfl) (h205.ev rfl) (S198.cellsAll (i := 6) rfl)) rfl rfl fun a206 h206 => ?_
              refine sl_val (v := dscV zD none none 0 0) h206 (wanted_yes h206 _ rfl rfl rfl gc129) (ex_loads (by kernel_rfl) (by kernel_rfl) (h206.ev rfl) (S198.cellsAll (i := 8) rfl)) rfl rfl fun a207 h207 => ?_
              refine sl_bel h207 (wanted_yes h207 _ rfl rfl rfl gc129) (ex_call (fun _ _ => by kernel_rfl) (h207.evs rfl) rfl) rfl rfl S198 (SameD_eq (tkO d t) zD hto A43 B43 none none c43 e43 0 0 _ hT1 hT2 (S198.row2 (i := 7) rfl).1 (S198.row2 (i := 7) rfl).2 (Rd.nil _ _ _) (Rd.nil _ _ _)) fun a208 X208 h208 S208 => ?_
              refine sy h208 (ex_not (h208.ev rfl)) fun a209 h209 => ?_
              refine sy h209 (ex_pick_f (h209.ev rfl) gc129 (h209.ev rfl)) fun a210 h210 => ?_
              exact st_nil ⟨h210.mid (m := [(_, _), (_, _), (_, _), (_, _)]) rfl, S208⟩
             case ht =>
              intro gc129
              refine no h205 fun a211 h211 => ?_
              refine no h211 fun a212 h212 => ?_
              refine no h212 fun a213 h213 => ?_
              refine no h213 fun a214 h214 => ?_
              refine sy h214 (ex_pick_t (h214.ev rfl) gc129 (h214.ev rfl)) fun a215 h215 => ?_
              exact st_nil ⟨h215.mid (m := [(_, _), (_, _), (_, _), (_, _)]) rfl, S198⟩
             case h =>
              rintro a216 X216 ⟨h216, S216⟩
              refine sy h216 (ex_pick_t (h216.ev rfl) gc126 (h216.ev rfl)) fun a217 h217 => ?_
              exact st_nil ⟨h217.mid (m := [(_, _), (_, _), (_, _), (_, _)]) rfl, S216⟩
            case hf =>
             intro gc126
             refine no h202 fun a218 h218 => ?_
             refine no h218 fun a219 h219 => ?_
             refine no h219 fun a220 h220 => ?_
             refine sl_no h220 (wanted_not h220 _ rfl rfl rfl) rfl rfl fun a221 h221 => ?_
             refine sl_no h221 (wanted_not h221 _ rfl rfl rfl) rfl rfl fun a222 h222 => ?_
             refine sl_no h222 (wanted_not h222 _ rfl rfl rfl) rfl rfl fun a223 h223 => ?_
             refine sl_no h223 (wanted_not h223 _ rfl rfl rfl) rfl rfl fun a224 h224 => ?_
             refine no h224 fun a225 h225 => ?_
             refine sy h225 (ex_pick_f (h225.ev rfl) gc126 (h225.ev rfl)) fun a226 h226 => ?_
             exact st_nil ⟨h226.mid (m := [(_, _), (_, _), (_, _), (_, _), (_, _), (_, _), (_, _), (_, _)]) rfl, S198⟩
            case h =>
             rintro a227 X227 ⟨h227, S227⟩
             refine sv h227 (ex_pick_f (h227.ev rfl) gc123 (h227.ev rfl)) fun a228 h228 => ?_
             exact st_nil ⟨h228.mid (m := [(_, _), (_, _), (_, _), (_, _)]) rfl, S227⟩
           case ht =>
            intro gc123
            refine no h199 fun a229 h229 => ?_
            refine no h229 fun a230 h230 => ?_
            refine no h230 fun a231 h231 => ?_
            refine sl_no h231 (wanted_not h231 _ rfl rfl rfl) rfl rfl fun a232 h232 => ?_
            refine sl_no h232 (wanted_not h232 _ rfl rfl rfl) rfl rfl fun a233 h233 => ?_
            refine sl_no h233 (wanted_not h233 _ rfl rfl rfl) rfl rfl fun a234 h234 => ?_
            refine sl_no h234 (wanted_not h234 _ rfl rfl rfl) rfl rfl fun a235 h235 => ?_
            refine sl_no h235 (wanted_not h235 _ rfl rfl rfl) rfl rfl fun a236 h236 => ?_
            refine sl_no h236 (wanted_not h236 _ rfl rfl rfl) rfl rfl fun a237 h237 => ?_
            refine sl_no h237 (wanted_not h237 _ rfl rfl rfl) rfl rfl fun a238 h238 => ?_
            refine sl_no h238 (wanted_not h238 _ rfl rfl rfl) rfl rfl fun a239 h239 => ?_
            refine no h239 fun a240 h240 => ?_
            refine sv h240 (ex_pick_t (h240.ev rfl) gc123 (h240.ev rfl)) fun a241 h241 => ?_
            exact st_nil ⟨h241.mid (m := [(_, _), (_, _), (_, _), (_, _), (_, _), (_, _), (_, _), (_, _), (_, _), (_, _), (_, _), (_, _)]) rfl, S198⟩
           case h =>
            rintro a242 X242 ⟨h242, S242⟩
            refine st_nil (go_then ?_)
            refine st_if_f (h242.ev rfl) ((by rw [ht0]; cases grtB d t 8 <;> rfl)) ?_
            refine wp_skip (go_then (st_seq (st_reg ?_)))
            refine sv (v := dscV d A1 A2 c1 c2) h242 (ex_loads (by kernel_rfl) (by kernel_rfl) (h242.ev rfl) (S242.cellsAll (i := 10) rfl)) fun a243 h243 => ?_
            refine sv (v := tokV t A c) h243 (ex_loads (by kernel_rfl) (by kernel_rfl) (h243.ev rfl) (S242.cellsAll (i := 11) rfl)) fun a244 h244 => ?_
            refine mv h244 fun a245 h245 => ?_
            refine sl_more h245 (wn rfl) (ex_call (fun _ _ => by kernel_rfl) (h245.evs rfl) rfl) rfl rfl S242 (Created_any d t dir A1 A2 A c1 c2 c _ ⟨hl1, hl2, hl3, S242.rd0 hr1, S242.rd0 hr2, S242.rd0 hr3, hg.below S242.below⟩ hz1 hz2) fun p141 a246 X246 h246 S246 => ?_
            refine mv h246 fun a247 h247 => ?_
            refine sv (v := dscV (rchO dir t.u (grpT t) d) p141.1.1 p141.2.1 p141.1.2 p141.2.2) h247 (ex_extract (h247.ev rfl) rfl) fun a248 h248 => ?_
            refine vx h248 fun a249 h249 => ?_
            refine na (.agg #[.int .i64 0, .int .i64 0, .bool false, .bool false, .slice none 0 0, .slice none 0 0]) h249 rfl S246 fun b20 a250 X250 gb20 h250 S250 => ?_
            refine sw h250 S250 0 fun X251 S251 => ?_
            refine ma h250 fun a252 h252 => ?_
            have hR1 : (rchO dir t.u (grpT t) d).es.length ≤ 500 := by rw [← hx1]; exact hC5
            have hR2 : (rchO dir t.u (grpT t) d).us.length ≤ 500 := by rw [← hx1]; exact hC6
            refine nsr ?_
            refine mvv h252 fun a254 h254 => ?_
            apply sl_and h254 S251 145 rfl 9 154
            case ht =>
             intro gc145
             refine sy h254 (ex_move (h254.ev rfl)) fun a255 h255 => ?_
             refine sy h255 (ex_neq (h255.ev rfl) (h255.ev rfl)) fun a256 h256 => ?_
             refine sy h256 (ex_move (h256.ev rfl)) fun a257 h257 => ?_
             apply sl_or h257 S251 148 rfl 5 153
             case hf =>
              intro gc148
              refine sl_val (v := dscV (crtO d t dir) A62 B62 c62 e62) h257 (wanted_yes h257 _ rfl rfl rfl gc148) (ex_loads (by kernel_rfl) (by kernel_rfl) (h257.ev rfl) (S251.cellsAll (i := 4) rfl)) rfl rfl fun a258 h258 => ?_
              refine sl_val (v := dscV (rchO dir t.u (grpT t) d) p141.1.1 p141.2.1 p141.1.2 p141.2.2) h258 (wanted_yes h258 _ rfl rfl rfl gc148) (ex_loads (by kernel_rfl) (by kernel_rfl) (h258.ev rfl) (S251.cellsAll (i := 0) rfl)) rfl rfl fun a259 h259 => ?_
              refine sl_bel h259 (wanted_yes h259 _ rfl rfl rfl gc148) (ex_call (fun _ _ => by kernel_rfl) (h259.evs rfl) rfl) rfl rfl S251 (SameD_eq (crtO d t dir) (rchO dir t.u (grpT t) d) hx1 A62 B62 p141.1.1 p141.2.1 c62 e62 p141.1.2 p141.2.2 _ hC5 hC6 (S251.row2 (i := 5) rfl).1 (S251.row2 (i := 5) rfl).2 (S251.row2 (i := 1) rfl).1 (S251.row2 (i := 1) rfl).2) fun a260 X260 h260 S260 => ?_
              refine sy h260 (ex_not (h260.ev rfl)) fun a261 h261 => ?_
              refine sy h261 (ex_pick_f (h261.ev rfl) gc148 (h261.ev rfl)) fun a262 h262 => ?_
              exact st_nil ⟨h262.mid (m := [(_, _), (_, _), (_, _), (_, _)]) rfl, S260⟩
             case ht =>
              intro gc148
              refine no h257 fun a263 h263 => ?_
              refine no h263 fun a264 h264 => ?_
              refine no h264 fun a265 h265 => ?_
              refine no h265 fun a266 h266 => ?_
              refine sy h266 (ex_pick_t (h266.ev rfl) gc148 (h266.ev rfl)) fun a267 h267 => ?_
              exact st_nil ⟨h267.mid (m := [(_, _), (_, _), (_, _), (_, _)]) rfl, S251⟩
             case h =>
              rintro a268 X268 ⟨h268, S268⟩
              refine sv h268 (ex_pick_t (h268.ev rfl) gc145 (h268.ev rfl)) fun a269 h269 => ?_
              exact st_nil ⟨h269.mid (m := [(_, _), (_, _), (_, _), (_, _)]) rfl, S268⟩
            case hf =>
             intro gc145
             refine no h254 fun a270 h270 => ?_
             refine no h270 fun a271 h271 => ?_
             refine no h271 fun a272 h272 => ?_
             refine sl_no h272 (wanted_not h272 _ rfl rfl rfl) rfl rfl fun a273 h273 => ?_
             refine sl_no h273 (wanted_not h273 _ rfl rfl rfl) rfl rfl fun a274 h274 => ?_
             refine sl_no h274 (wanted_not h274 _ rfl rfl rfl) rfl rfl fun a275 h275 => ?_
             refine sl_no h275 (wanted_not h275 _ rfl rfl rfl) rfl rfl fun a276 h276 => ?_
             refine no h276 fun a277 h277 => ?_
             refine sv h277 (ex_pick_f (h277.ev rfl) gc145 (h277.ev rfl)) fun a278 h278 => ?_
             exact st_nil ⟨h278.mid (m := [(_, _), (_, _), (_, _), (_, _), (_, _), (_, _), (_, _), (_, _)]) rfl, S251⟩
            case h =>
             rintro a279 X279 ⟨h279, S279⟩
             refine mv h279 fun a280 h280 => ?_
             apply sl_or (x := (!rchB dir t.u (grpT t) d && ((crtE d t dir != 16) || false))) h280 S279 155 rfl 13 168
             case hf =>
              intro gc155
              refine sy h280 (ex_move (h280.ev rfl)) fun a281 h281 => ?_
              refine sy h281 (ex_not (h281.ev rfl)) fun a282 h282 => ?_
              refine sy h282 (ex_move (h282.ev rfl)) fun a283 h283 => ?_
              apply sl_and (x := ((crtE d t dir != 16) || false)) h283 S279 158 rfl 9 167
              case ht =>
               intro gc158
               have hrf : rchB dir t.u (grpT t) d = false := by simpa using gc158
               have hxz : crtO d t dir = zD := hx1.trans (if_neg (by rw [hrf]; decide))
               refine sy h283 (ex_move (h283.ev rfl)) fun a284 h284 => ?_
               refine sy h284 (ex_neq (h284.ev rfl) (h284.ev rfl)) fun a285 h285 => ?_
               refine sy h285 (ex_move (h285.ev rfl)) fun a286 h286 => ?_
               apply sl_or (x := false) h286 S279 161 rfl 5 166
               case hf =>
                intro gc161
                refine sl_val (v := dscV (crtO d t dir) A62 B62 c62 e62) h286 (wanted_yes h286 _ rfl rfl rfl gc161) (ex_loads (by kernel_rfl) (by kernel_rfl) (h286.ev rfl) (S279.cellsAll (i := 4) rfl)) rfl rfl fun a287 h287 => ?_
                refine sl_val (v := dscV zD none none 0 0) h287 (wanted_yes h287 _ rfl rfl rfl gc161) (ex_loads (by kernel_rfl) (by kernel_rfl) (h287.ev rfl) (S279.cellsAll (i := 10) rfl)) rfl rfl fun a288 h288 => ?_
                refine sl_bel h288 (wanted_yes h288 _ rfl rfl rfl gc161) (ex_call (fun _ _ => by kernel_rfl) (h288.evs rfl) rfl) rfl rfl S279 (SameD_eq (crtO d t dir) zD hxz A62 B62 none none c62 e62 0 0 _ hC5 hC6 (S279.row2 (i := 5) rfl).1 (S279.row2 (i := 5) rfl).2 (Rd.nil _ _ _) (Rd.nil _ _ _)) fun a289 X289 h289 S289 => ?_
                refine sy h289 (ex_not (h289.ev rfl)) fun a290 h290 => ?_
                refine sy h290 (ex_pick_f (h290.ev rfl) gc161 (h290.ev rfl)) fun a291 h291 => ?_
                exact st_nil ⟨h291.mid (m := [(_, _), (_, _), (_, _), (_, _)]) rfl, S289⟩
               case ht =>
                intro gc161
                refine no h286 fun a292 h292 => ?_
                refine no h292 fun a293 h293 => ?_
                refine no h293 fun a294 h294 => ?_
                refine no h294 fun a295 h295 => ?_
                refine sy h295 (ex_pick_t (h295.ev rfl) gc161 (h295.ev rfl)) fun a296 h296 => ?_
                exact st_nil ⟨h296.mid (m := [(_, _), (_, _), (_, _), (_, _)]) rfl, S279⟩
               case h =>
                rintro a297 X297 ⟨h297, S297⟩
                refine sy h297 (ex_pick_t (h297.ev rfl) gc158 (h297.ev rfl)) fun a298 h298 => ?_
                exact st_nil ⟨h298.mid (m := [(_, _), (_, _), (_, _), (_, _)]) rfl, S297⟩
              case hf =>
               intro gc158
               refine no h283 fun a299 h299 => ?_
               refine no h299 fun a300 h300 => ?_
               refine no h300 fun a301 h301 => ?_
               refine sl_no h301 (wanted_not h301 _ rfl rfl rfl) rfl rfl fun a302 h302 => ?_
               refine sl_no h302 (wanted_not h302 _ rfl rfl rfl) rfl rfl fun a303 h303 => ?_
               refine sl_no h303 (wanted_not h303 _ rfl rfl rfl) rfl rfl fun a304 h304 => ?_
               refine sl_no h304 (wanted_not h304 _ rfl rfl rfl) rfl rfl fun a305 h305 => ?_
               refine no h305 fun a306 h306 => ?_
               refine sy h306 (ex_pick_f (h306.ev rfl) gc158 (h306.ev rfl)) fun a307 h307 => ?_
               exact st_nil ⟨h307.mid (m := [(_, _), (_, _), (_, _), (_, _), (_, _), (_, _), (_, _), (_, _)]) rfl, S279⟩
              case h =>
               rintro a308 X308 ⟨h308, S308⟩
               refine sv h308 (ex_pick_f (h308.ev rfl) gc155 (h308.ev rfl)) fun a309 h309 => ?_
               exact st_nil ⟨h309.mid (m := [(_, _), (_, _), (_, _), (_, _)]) rfl, S308⟩
             case ht =>
              intro gc155
              refine no h280 fun a310 h310 => ?_
              refine no h310 fun a311 h311 => ?_
              refine no h311 fun a312 h312 => ?_
              refine sl_no h312 (wanted_not h312 _ rfl rfl rfl) rfl rfl fun a313 h313 => ?_
              refine sl_no h313 (wanted_not h313 _ rfl rfl rfl) rfl rfl fun a314 h314 => ?_
              refine sl_no h314 (wanted_not h314 _ rfl rfl rfl) rfl rfl fun a315 h315 => ?_
              refine sl_no h315 (wanted_not h315 _ rfl rfl rfl) rfl rfl fun a316 h316 => ?_
              refine sl_no h316 (wanted_not h316 _ rfl rfl rfl) rfl rfl fun a317 h317 => ?_
              refine sl_no h317 (wanted_not h317 _ rfl rfl rfl) rfl rfl fun a318 h318 => ?_
              refine sl_no h318 (wanted_not h318 _ rfl rfl rfl) rfl rfl fun a319 h319 => ?_
              refine sl_no h319 (wanted_not h319 _ rfl rfl rfl) rfl rfl fun a320 h320 => ?_
              refine no h320 fun a321 h321 => ?_
              refine sv h321 (ex_pick_t (h321.ev rfl) gc155 (h321.ev rfl)) fun a322 h322 => ?_
              exact st_nil ⟨h322.mid (m := [(_, _), (_, _), (_, _), (_, _), (_, _), (_, _), (_, _), (_, _), (_, _), (_, _), (_, _), (_, _)]) rfl, S279⟩
             case h =>
              rintro a323 X323 ⟨h323, S323⟩
              refine st_nil (go_then ?_)
              refine st_if_f (h323.ev rfl) ((by rw [hx0]; cases rchB dir t.u (grpT t) d <;> rfl)) ?_
              refine wp_skip (go_then ?_)
              exact ⟨h323.re ⟨rfl, rfl, rfl, rfl, rfl, rfl, rfl, trivial⟩, S323.sub (.cons _ (.cons _ (.cons _ (.cons _ (.cons_cons _ (.cons_cons _ (.cons_cons _ (.cons_cons _ (.cons_cons _ (.cons_cons _ (.cons_cons _ (.cons_cons _ (.cons_cons _ (.cons_cons _ (.cons_cons _ .slnil)))))))))))))))⟩
         ·
          refine wp_skip (go_then ?_)
          exact ⟨h133.re ⟨rfl, rfl, rfl, rfl, rfl, rfl, rfl, trivial⟩, S131⟩
        ·
         refine go_then (st_seq (st_reg ?_))
         refine sv (v := dscV d A1 A2 c1 c2) h134 (ex_loads (by kernel_rfl) (by kernel_rfl) (h134.ev rfl) (S134.cellsAll (i := 8) rfl)) fun a324 h324 => ?_
         refine sl_bel h324 (wn rfl) (ex_call (fun _ _ => by kernel_rfl) (h324.evs rfl) rfl) rfl rfl S134 (refDescErr_any d A1 A2 c1 c2 _ hl1 hl2 (S134.rd0 hr1) (S134.rd0 hr2)) fun a325 X325 h325 S325 => ?_
         refine ma h325 fun a326 h326 => ?_
         refine st_nil (go_then (st_seq (st_seq (st_reg ?_))))
         refine mv h326 fun a327 h327 => ?_
         refine sv h327 (ex_eql (h327.ev rfl) (h327.ev rfl)) fun a328 h328 => ?_
         refine st_nil (go_then ?_)
         refine st_joinH h328 S325 [(16, .int .i64 C1)] [13, 12, 9, 8, 7, 4] ?_ (fun a329 X329 h329 S329 => ?_)
         ·
          refine st_if (h328.ev rfl) (fun hc6 => ?_) (fun hc6 => ?_)
          ·
           have h6 : dscE d = 0 := by simpa using hc6
           refine st_reg ?_
           refine sv (v := dscV y B1 B2 b1 b2) h328 (ex_loads (by kernel_rfl) (by kernel_rfl) (h328.ev rfl) (S325.cellsAll (i := 7) rfl)) fun a330 h330 => ?_
           refine sl_bel h330 (wn rfl) (ex_call (fun _ _ => by kernel_rfl) (h330.evs rfl) rfl) rfl rfl S325 (refDescErr_any y B1 B2 b1 b2 _ hk1 hk2 (S325.rd0 hs1) (S325.rd0 hs2)) fun a331 X331 h331 S331 => ?_
           refine ma h331 fun a332 h332 => ?_
           refine st_nil (go_then ?_)
           replace h332 := Has.also h332 (t := 16) (v := .int .i64 C1) ((show look _ 16 = some (.int .i64 (dscE y)) from rfl).trans (by rw [hC1, if_pos h6]))
           exact ⟨h332.re ⟨rfl, rfl, rfl, rfl, rfl, rfl, rfl, trivial⟩, S331⟩
          ·
           have h6 : dscE d ≠ 0 := by simpa using hc6
           refine wp_skip (go_then ?_)
           replace h328 := Has.also h328 (t := 16) (v := .int .i64 C1) ((show look _ 16 = some (.int .i64 (dscE d)) from rfl).trans (by rw [hC1, if_neg h6]))
           exact ⟨h328.re ⟨rfl, rfl, rfl, rfl, rfl, rfl, rfl, trivial⟩, S325⟩
         ·
          refine go_then (st_seq (st_seq (st_reg ?_)))
          refine mv h329 fun a333 h333 => ?_
          refine sv h333 (ex_eql (h333.ev rfl) (h333.ev rfl)) fun a334 h334 => ?_
          refine st_nil (go_then ?_)
          refine st_joinH h334 S329 [(16, .int .i64 (mayE d y t))] [13, 12, 9, 8, 7, 4] ?_ (fun a335 X335 h335 S335 => ?_)
          ·
           refine st_if (h334.ev rfl) (fun hc7 => ?_) (fun hc7 => ?_)
           ·
            have h7 : C1 = 0 := by simpa using hc7
            refine st_reg ?_
            refine sv (v := tokV t A c) h334 (ex_loads (by kernel_rfl) (by kernel_rfl) (h334.ev rfl) (S329.cellsAll (i := 9) rfl)) fun a336 h336 => ?_
            refine sl_bel h336 (wn rfl) (ex_call (fun _ _ => by kernel_rfl) (h336.evs rfl) rfl) rfl rfl S329 (TokenErr_any t A c _ (by omega) (S329.rd0 hr3)) fun a337 X337 h337 S337 => ?_
            refine ma h337 fun a338 h338 => ?_
            refine st_nil (go_then ?_)
            replace h338 := Has.also h338 (t := 16) (v := .int .i64 (mayE d y t)) ((show look _ 16 = some (.int .i64 (tokE t)) from rfl).trans (by rw [hmC, if_pos h7]))
            exact ⟨h338.re ⟨rfl, rfl, rfl, rfl, rfl, rfl, rfl, trivial⟩, S337⟩
           ·
            have h7 : C1 ≠ 0 := by simpa using hc7
            refine wp_skip (go_then ?_)
            replace h334 := Has.also h334 (t := 16) (v := .int .i64 (mayE d y t)) ((show look _ 16 = some (.int .i64 C1) from rfl).trans (by rw [hmC, if_neg h7]))
            exact ⟨h334.re ⟨rfl, rfl, rfl, rfl, rfl, rfl, rfl, trivial⟩, S329⟩
          ·
           refine go_then (st_seq (st_seq (st_reg ?_)))
           refine mv h335 fun a339 h339 => ?_
           refine sv h339 (ex_eql (h339.ev rfl) (h339.ev rfl)) fun a340 h340 => ?_
           refine mv h340 fun a341 h341 => ?_
           apply sl_and h341 S335 181 rfl 6 187
           case ht =>
            intro gc181
            have hmz : mayE d y t = 0 := by simpa using gc181
            have hz1 : dscE d = 0 := firstE_zero hmz _ (List.mem_cons_self ..)
            have hz2 : tokE t = 0 := firstE_zero hmz _ (List.mem_cons_of_mem _ (List.mem_cons_of_mem _ (List.mem_cons_self ..)))
            obtain ⟨_, _, _, _, _, hok, _⟩ := dscE_zero hz1
            obtain ⟨_, _, _, ht4, ht5⟩ := tokE_zero hz2
            have hdo : dtO d t := ⟨fun a ha => (aceO_of (hok a ha).1).1, ht4, ht5⟩
            refine sl_val (v := dscV d A1 A2 c1 c2) h341 (wanted_yes h341 _ rfl rfl rfl gc181) (ex_loads (by kernel_rfl) (by kernel_rfl) (h341.ev rfl) (S335.cellsAll (i := 8) rfl)) rfl rfl fun a342 h342 => ?_
            refine sl_val (v := dscV y B1 B2 b1 b2) h342 (wanted_yes h342 _ rfl rfl rfl gc181) (ex_loads (by kernel_rfl) (by kernel_rfl) (h342.ev rfl) (S335.cellsAll (i := 7) rfl)) rfl rfl fun a343 h343 => ?_
            refine sl_val (v := tokV t A c) h343 (wanted_yes h343 _ rfl rfl rfl gc181) (ex_loads (by kernel_rfl) (by kernel_rfl) (h343.ev rfl) (S335.cellsAll (i := 9) rfl)) rfl rfl fun a344 h344 => ?_
            refine sl_bel h344 (wanted_yes h344 _ rfl rfl rfl gc181) (ex_call (fun _ _ => by kernel_rfl) (h344.evs rfl) rfl) rfl rfl S335 (MayReplace_any d y t A1 A2 B1 B2 A c1 c2 b1 b2 c _ ⟨hl1, hl2, hl3, S335.rd0 hr1, S335.rd0 hr2, S335.rd0 hr3, hg.below S335.below⟩ ⟨hk1, hk2, hl3, S335.rd0 hs1, S335.rd0 hs2, S335.rd0 hr3, hg.below S335.below⟩ hdo ⟨ht4, ht5⟩) fun a345 X345 h345 S345 => ?_
            refine sy h345 (ex_not (h345.ev rfl)) fun a346 h346 => ?_
            refine sv h346 (ex_pick_t (h346.ev rfl) gc181 (h346.ev rfl)) fun a347 h347 => ?_
            exact st_nil ⟨h347.mid (m := [(_, _), (_, _), (_, _), (_, _), (_, _)]) rfl, S345⟩
           case hf =>
            intro gc181
            refine no h341 fun a348 h348 => ?_
            refine no h348 fun a349 h349 => ?_
            refine no h349 fun a350 h350 => ?_
            refine no h350 fun a351 h351 => ?_
            refine no h351 fun a352 h352 => ?_
            refine sv h352 (ex_pick_f (h352.ev rfl) gc181 (h352.ev rfl)) fun a353 h353 => ?_
            exact st_nil ⟨h353.mid (m := [(_, _), (_, _), (_, _), (_, _), (_, _)]) rfl, S335⟩
           case h =>
            rintro a354 X354 ⟨h354, S354⟩
            refine st_nil (go_then ?_)
            refine st_joinH h354 S354 [(16, .int .i64 (rplE d y t))] [13, 12, 9, 8] ?_ (fun a355 X355 h355 S355 => ?_)
            ·
             refine st_if (h354.ev rfl) (fun hc8 => ?_) (fun hc8 => ?_)
             ·
              have h8 : mayE d y t = 0 ∧ mrG d y t = false := by simpa using hc8
              refine st_reg ?_
              refine ma h354 fun a356 h356 => ?_
              refine st_nil (go_then ?_)
              replace h356 := Has.also h356 (t := 16) (v := .int .i64 (rplE d y t)) ((show look _ 16 = some (.int .i64 27) from rfl).trans (by unfold rplE; rw [if_pos h8.1, if_neg (by rw [h8.2]; decide)]))
              exact ⟨h356.re ⟨rfl, rfl, rfl, rfl, rfl, trivial⟩, S354⟩
             ·
              have h8 : rplE d y t = mayE d y t := by
               unfold rplE
               by_cases q : mayE d y t = 0
               · rw [if_pos q, q]
                 have : mrG d y t = true := by rw [q] at hc8; simpa using hc8
                 rw [if_pos this]
               · rw [if_neg q]
              refine wp_skip (go_then ?_)
              replace h354 := Has.also h354 (t := 16) (v := .int .i64 (rplE d y t)) ((show look _ 16 = some (.int .i64 (mayE d y t)) from rfl).trans (by rw [h8]))
              exact ⟨h354.re ⟨rfl, rfl, rfl, rfl, rfl, trivial⟩, S354⟩
            ·
             refine go_then (st_seq (st_seq (st_reg ?_)))
             refine mv h355 fun a357 h357 => ?_
             refine sv h357 (ex_neq (h357.ev rfl) (h357.ev rfl)) fun a358 h358 => ?_
             refine st_nil (go_then ?_)
             refine st_if (h358.ev rfl) (fun hc9 => ?_) (fun hc9 => ?_)
             ·
              have h9 : rplE d y t ≠ 0 := by simpa using hc9
              have h9z : rplO d y t = zD := if_neg h9
              refine st_seq (st_reg ?_)
              refine mvv h358 fun a360 h360 => ?_
              refine sv h360 (ex_eql (h360.ev rfl) (h360.ev rfl)) fun a361 h361 => ?_
              refine mv h361 fun a362 h362 => ?_
              apply sl_and h362 S355 193 rfl 4 197
              case ht =>
               intro gc193
               refine sl_val (v := dscV (rplO d y t) A53 B53 c53 e53) h362 (wanted_yes h362 _ rfl rfl rfl gc193) (ex_loads (by kernel_rfl) (by kernel_rfl) (h362.ev rfl) (S355.cellsAll (i := 2) rfl)) rfl rfl fun a363 h363 => ?_
               refine sl_val (v := dscV zD none none 0 0) h363 (wanted_yes h363 _ rfl rfl rfl gc193) (ex_loads (by kernel_rfl) (by kernel_rfl) (h363.ev rfl) (S355.cellsAll (i := 6) rfl)) rfl rfl fun a364 h364 => ?_
               refine sl_bel h364 (wanted_yes h364 _ rfl rfl rfl gc193) (ex_call (fun _ _ => by kernel_rfl) (h364.evs rfl) rfl) rfl rfl S355 (SameD_eq (rplO d y t) zD h9z A53 B53 none none c53 e53 0 0 _ hP1 hP2 (S355.row2 (i := 3) rfl).1 (S355.row2 (i := 3) rfl).2 (Rd.nil _ _ _) (Rd.nil _ _ _)) fun a365 X365 h365 S365 => ?_
               refine sv h365 (ex_pick_t (h365.ev rfl) gc193 (h365.ev rfl)) fun a366 h366 => ?_
               exact st_nil ⟨h366.mid (m := [(_, _), (_, _), (_, _)]) rfl, S365⟩
              case hf =>
               intro gc193
               refine no h362 fun a367 h367 => ?_
               refine no h367 fun a368 h368 => ?_
               refine no h368 fun a369 h369 => ?_
               refine sv h369 (ex_pick_f (h369.ev rfl) gc193 (h369.ev rfl)) fun a370 h370 => ?_
               exact st_nil ⟨h370.mid (m := [(_, _), (_, _), (_, _)]) rfl, S355⟩
              case h =>
               rintro a371 X371 ⟨h371, S371⟩
               refine ma h371 fun a372 h372 => ?_
               refine st_nil (go_then (wp_ret (ret_then ?_)))
               refine fin1 h372 rfl rfl ?_
               exact ⟨by rw [beq_self_eq_true]; rfl, S371.below⟩
             ·
              have h9 : rplE d y t = 0 := by simpa using hc9
              have h9z : rplO d y t = y := if_pos h9
              refine wp_skip (go_then (st_seq (st_reg ?_)))
              refine mv h358 fun a373 h373 => ?_
              refine sv h373 (ex_eql (h373.ev rfl) (h373.ev rfl)) fun a374 h374 => ?_
              refine mv h374 fun a375 h375 => ?_
              apply sl_and h375 S355 200 rfl 4 204
              case ht =>
               intro gc200
               refine sl_val (v := dscV (rplO d y t) A53 B53 c53 e53) h375 (wanted_yes h375 _ rfl rfl rfl gc200) (ex_loads (by kernel_rfl) (by kernel_rfl) (h375.ev rfl) (S355.cellsAll (i := 2) rfl)) rfl rfl fun a376 h376 => ?_
               refine sl_val (v := dscV y B1 B2 b1 b2) h376 (wanted_yes h376 _ rfl rfl rfl gc200) (ex_loads (by kernel_rfl) (by kernel_rfl) (h376.ev rfl) (S355.cellsAll (i := 7) rfl)) rfl rfl fun a377 h377 => ?_
               refine sl_bel h377 (wanted_yes h377 _ rfl rfl rfl gc200) (ex_call (fun _ _ => by kernel_rfl) (h377.evs rfl) rfl) rfl rfl S355 (SameD_eq (rplO d y t) y h9z A53 B53 B1 B2 c53 e53 b1 b2 _ hP1 hP2 (S355.row2 (i := 3) rfl).1 (S355.row2 (i := 3) rfl).2 (S355.rd0 hs1) (S355.rd0 hs2)) fun a378 X378 h378 S378 => ?_
               refine sv h378 (ex_pick_t (h378.ev rfl) gc200 (h378.ev rfl)) fun a379 h379 => ?_
               exact st_nil ⟨h379.mid (m := [(_, _), (_, _), (_, _)]) rfl, S378⟩
              case hf =>
               intro gc200
               refine no h375 fun a380 h380 => ?_
               refine no h380 fun a381 h381 => ?_
               refine no h381 fun a382 h382 => ?_
               refine sv h382 (ex_pick_f (h382.ev rfl) gc200 (h382.ev rfl)) fun a383 h383 => ?_
               exact st_nil ⟨h383.mid (m := [(_, _), (_, _), (_, _)]) rfl, S355⟩
              case h =>
               rintro a384 X384 ⟨h384, S384⟩
               refine ma h384 fun a385 h385 => ?_
               refine st_nil (go_then (wp_ret ?_))
               refine fin1 h385 rfl rfl ?_
               exact ⟨by rw [h9]; rfl, S384.below⟩
      case hB => kernel_rfl
     case hB => kernel_rfl
    case hB => kernel_rfl
 case hB => kernel_rfl
 case hne => rfl
end Go.Proofs.YtanicpgmbhfipaaGreatDoor
