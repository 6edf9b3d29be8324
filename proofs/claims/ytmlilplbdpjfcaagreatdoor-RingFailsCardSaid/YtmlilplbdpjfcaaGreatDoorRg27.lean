/-
  Chapter 20: the example of the statements.
-/
import Derived.Test.YtmlilplbdpjfcaaGreatDoorRg26
namespace Go.Proofs.YtmlilplbdpjfcaaGreatDoor
set_option linter.unusedVariables false
set_option linter.unusedSimpArgs false
set_option maxRecDepth 4000
open Go.RowKit Go.Sort
def ring0 : RngP := ⟨6, ⟨1, 0, 1⟩, rst0, [], 0⟩
def ring1 : RngP := appV ring0 (bs [97, 98, 99])
def ring2 : RngP := appV ring1 (bs (zerosL 500))
def ring3 : RngP := cloV ring2
def ring4 : RngP := appV ring3 (bs [120])
theorem ring_ok : (chkR ring0).2 = 0 ∧ (chkR ring1).2 = 0 ∧ (chkR ring2).2 = 0 ∧ (chkR ring3).2 = 0 ∧ (chkR ring4).2 = 0 := ⟨by kernel_rfl, by kernel_rfl, by kernel_rfl, by kernel_rfl, by kernel_rfl⟩
theorem ring_app : appE ring0 (bs [97, 98, 99]) = 0 ∧ appE ring1 (bs (zerosL 500)) = 0 ∧ cloE ring2 = 0 ∧ appE ring3 (bs [120]) = 0 := ⟨by kernel_rfl, by kernel_rfl, by kernel_rfl, by kernel_rfl⟩
theorem ring_def : ring1 = appV ring0 (bs [97, 98, 99]) ∧ ring2 = appV ring1 (bs (zerosL 500)) ∧ ring3 = cloV ring2 ∧ ring4 = appV ring3 (bs [120]) := ⟨rfl, rfl, rfl, rfl⟩
theorem rApp_ok (r r' : RngP) (s : ByteArray) (A : Option Addr) (c : Nat) (w : World) (hr : Rd w w.heap.size A (recsV r.rs)) (hk : (chkR r).2 = 0) (hs : s.size ≤ 1000000) (he : appE r s = 0) (h' : r' = appV r s) :
 Calls Tryz.prog 34 #[ringV r A c, .string s] w fun e w' => ∃ A' c', e = .returned (.tuple #[ringV r' A' c', .int .i64 (r.nx + 1), .int .i64 0]) ∧ w'.ownsRow w.heap.size 98 3 (.slice A' r'.rs.length c') r'.rs.length (recsV r'.rs) ∧ Below w.heap.size w w' := by
 have := rAppended_any r A c s w hr (ok_iff.1 hk) hs
 have e3 : appR r s = r' := by unfold appR; rw [if_pos he, h']
 rw [e3, if_pos he, he] at this
 exact this
theorem rClo_ok (r r' : RngP) (A : Option Addr) (c : Nat) (w : World) (hr : Rd w w.heap.size A (recsV r.rs)) (hk : (chkR r).2 = 0) (he : cloE r = 0) (h' : r' = cloV r) :
 Calls Tryz.prog 18 #[ringV r A c] w fun e w' => ∃ A' c', e = .returned (.tuple #[ringV r' A' c', .int .i64 0]) ∧ w'.ownsRow w.heap.size 98 3 (.slice A' r'.rs.length c') r'.rs.length (recsV r'.rs) ∧ Below w.heap.size w w' := by
 have hk2 := ok_iff.1 hk
 have := rClosed_any r A c w hr (by have := hk2.h.len; omega) (by have := hk2.h.nx; omega)
 have e3 : cloR r = r' := by unfold cloR; rw [if_pos he, h']
 rw [e3, he] at this
 exact this
def ring5 : RngP := rsaV ring4 0 897
def ring6 : RngP := appV ring5 (bs (zerosL 900))
def ring7 : RngP := cloV ring4
theorem ring_def5 : rsaV ring4 0 897 = ring5 := rfl
theorem ring_def6 : appV ring5 (bs (zerosL 900)) = ring6 := rfl
theorem ring_def7 : ring7 = cloV ring4 := rfl
theorem ring_in : inV (rbL ring4).flatten = (ring7, 0) := by kernel_rfl
theorem ring_more : roomsP ring4 = (0, 3) ∧ rs2E ring4 0 897 = 0 ∧ (chkR ring5).2 = 0 ∧ appE ring5 (bs (zerosL 900)) = 0 ∧ ring5.nx + 1 = 1345 ∧ cloE ring4 = 0 ∧ (chkR ring7).2 = 0 ∧ (rbL ring4).flatten.length = 3072 := ⟨by kernel_rfl, by kernel_rfl, by kernel_rfl, by kernel_rfl, by kernel_rfl, by kernel_rfl, by kernel_rfl, by kernel_rfl⟩
attribute [local irreducible] ring1 ring2 ring3 ring4
theorem Ring_any (w : World) : Calls Tryz.prog 55 #[] w fun e w' => ∃ A c, e = .returned (ringV ring4 A c) ∧ w'.ownsRow w.heap.size 98 3 (.slice A ring4.rs.length c) ring4.rs.length (recsV ring4.rs) ∧ Below w.heap.size w w' := by
 have hZ : ∀ w, Calls Tryz.prog 56 #[.int .i64 500] w fun e w' => e = .returned (.string (bs (zerosL 500))) ∧ Below w.heap.size w w' := fun w => Zeros_any 500 w (by decide)
 refine st_enter (N := 29) Tryz.func55 rfl rfl rfl (fun a0 h0 => ?_)
 have S0 := St.init w
 refine st_seq (st_reg ?_)
 refine na (.agg #[.int .i64 0, .int .i64 0, .int .i64 0, .int .i64 0, .int .i64 0, .int .i64 0, .int .i64 0, .slice none 0 0, .int .i64 0]) h0 rfl S0 fun b0 a1 X1 gb0 h1 S1 => ?_
 refine nsr ?_
 refine sl_bel h1 (wn rfl) (ex_call (fun _ _ => by kernel_rfl) (h1.evs rfl) rfl) rfl rfl S1 (rEmpty_any 6 _) fun a2 X2 h2 S2 => ?_
 refine sl_ownt h2 (wn rfl) (ex_call (fun _ _ => by kernel_rfl) (h2.evs rfl) rfl) rfl rfl S2 (rApp_ok ring0 ring1 (bs [97, 98, 99]) none 0 _ (Rd.nil _ _ _) ring_ok.1 (by rw [bs_size]; decide) ring_app.1 ring_def.1) (Nat.le_refl _) fun A6 c6 a3 X3 h3 S3 => ?_
 refine mv h3 rfl rfl fun a4 h4 => ?_
 refine vx h4 rfl rfl rfl fun a5 h5 => ?_
 refine vx h5 rfl rfl rfl fun a6 h6 => ?_
 refine vx h6 rfl rfl rfl fun a7 h7 => ?_
 refine na (.agg #[.int .i64 0, .int .i64 0, .int .i64 0, .int .i64 0, .int .i64 0, .int .i64 0, .int .i64 0, .slice none 0 0, .int .i64 0]) h7 rfl S3 fun b1 a8 X8 gb1 h8 S8 => ?_
 refine sl_store0 h8 (wn rfl) ⟨rfl, rfl⟩ (h8.ev rfl) (h8.ev rfl) rfl (by kernel_rfl) S8 (i := 0) rfl rfl rfl fun X9 S9 => ?_
 refine ma h8 rfl rfl fun a10 h10 => ?_
 refine ma h10 rfl rfl fun a11 h11 => ?_
 refine st_nil (go_then (st_seq ?_))
 apply dr_flowM h11 (fun q => q = b1) [(7, (fun q => q = b1))] [] [true, false, true, true, true, true, true, true] _ (by kernel_rfl) (all1 (fun b hb => hb))
 case h =>
  refine sq_bel h11 (wn rfl) rfl rfl (fun X => (ex_call (fun _ _ => by kernel_rfl) (h11.evs rfl) rfl)) (fun X hX => hZ _) fun a12 h12 => ?_
  refine sq_nil ?_
  apply nm_early (k := 0) (deps := []) (R := IsVal (ringV ring1 A6 c6)) h12 rfl rfl rfl (by kernel_rfl) IsVal.stable (all1 IsVal.kp) all0
  case hx => exact fun X hX hΦ => lv_val (ex_loads (by kernel_rfl) (by kernel_rfl) (h12.ev rfl) ((S9.grow hX).cellsAll (i := 0) rfl))
  intro v11 a13 h13
  apply nm_step (O := (fun q => q = b1)) (k := 2) (deps := [0]) (R := RowU _ _ _ _ _ _) h13 rfl rfl rfl (all1 (fun b hb => hb)) RowU.stable (all1 (RowU.kpO (fun b hb => (S9.new _ (List.mem_of_getElem? (i := 0) rfl) b hb).2))) all0
  case hx =>
   intro X hX hΦ
   obtain rfl : v11 = _ := (told_get (k := 0) hΦ rfl rfl)
   exact lv_ownt (ex_call (fun _ _ => by kernel_rfl) (h13.evs rfl) rfl) (rApp_ok ring1 ring2 (bs (zerosL 500)) A6 c6 _ ((S9.growO (i := 0) rfl hX).rdOf (i := 1) rfl) ring_ok.2.1 (by rw [bs_size, zerosL_length]; decide) ring_app.2.1 ring_def.2.1) hX.size
  intro v13 a14 h14
  apply nm_mov (k := 3) (deps := [0, 2]) (kx := 2) (src := 13) h14 rfl (.inl rfl) rfl rfl ⟨rfl, rfl⟩ rfl
  intro v10 a15 h15
  apply nm_ext (k := 4) (deps := [0, 2, 3]) (kx := 3) (src := 10) (i := 0) h15 rfl rfl rfl rfl ⟨rfl, rfl⟩ rfl
  case hx =>
   intro X hΦ
   obtain ⟨_, _, e1, _⟩ := (told_get (k := 2) hΦ rfl rfl)
   exact ⟨_, _, ((MovS.get h14 rfl (told_get (k := 3) hΦ rfl rfl)).trans e1), rfl⟩
  intro v14 a16 h16
  apply nm_ext (k := 5) (deps := [0, 2, 3]) (kx := 3) (src := 10) (i := 1) h16 rfl rfl rfl rfl ⟨rfl, rfl⟩ rfl
  case hx =>
   intro X hΦ
   obtain ⟨_, _, e1, _⟩ := (told_get (k := 2) hΦ rfl rfl)
   exact ⟨_, _, ((MovS.get h14 rfl (told_get (k := 3) hΦ rfl rfl)).trans e1), rfl⟩
  intro v15 a17 h17
  apply nm_ext (k := 6) (deps := [0, 2, 3]) (kx := 3) (src := 10) (i := 2) h17 rfl rfl rfl rfl ⟨rfl, rfl⟩ rfl
  case hx =>
   intro X hΦ
   obtain ⟨_, _, e1, _⟩ := (told_get (k := 2) hΦ rfl rfl)
   exact ⟨_, _, ((MovS.get h14 rfl (told_get (k := 3) hΦ rfl rfl)).trans e1), rfl⟩
  intro v16 a18 h18
  apply nm_boxY (k := 7) (deps := [0, 2, 3, 4]) (ky := 4) (x := 1) (y := 14) h18 rfl ⟨rfl, rfl⟩ rfl rfl ⟨rfl, rfl⟩ rfl rfl (n := 9) (by kernel_rfl)
  case hx =>
   intro X hX hΦ
   obtain ⟨_, _, e1, _⟩ := (told_get (k := 2) hΦ rfl rfl)
   subst e1
   obtain rfl := MovS.get h14 rfl (told_get (k := 3) hΦ rfl rfl)
   obtain rfl := ExtS.get h15 rfl rfl (told_get (k := 4) hΦ rfl rfl)
   exact ⟨(S9.grow hX).at_ (i := 0) rfl, rfl, rfl, rfl⟩
  intro vs7
  refine nm_end (O := (fun q => q = b1)) (all1 (fun b hb => hb)) fun X19 hX19 hΦ19 => ?_
  have q0 : v11 = _ := told_all hΦ19 (k := 0) rfl
  subst q0
  obtain ⟨A13, c13, rfl, qr13⟩ := told_all hΦ19 (k := 2) rfl
  obtain rfl := MovS.get h14 rfl (told_all hΦ19 (k := 3) rfl)
  obtain rfl := ExtS.get h15 rfl rfl (told_all hΦ19 (k := 4) rfl)
  obtain rfl := ExtS.get h16 rfl rfl (told_all hΦ19 (k := 5) rfl)
  obtain rfl := ExtS.get h17 rfl rfl (told_all hΦ19 (k := 6) rfl)
  have qbY := BoxY.get (v := vs7) h18 rfl (told_all hΦ19 (k := 7) rfl)
  have S19 := S9.growBoxRow (i := 0) rfl hX19 qbY qr13
  refine nsr ?_
  refine sv (v := ringV ring2 A13 c13) h18 (ex_loads (by kernel_rfl) (by kernel_rfl) (h18.ev rfl) (S19.cellsAll (i := 1) rfl)) fun a20 h20 => ?_
  refine sl_ownt h20 (wn rfl) (ex_call (fun _ _ => by kernel_rfl) (h20.evs rfl) rfl) rfl rfl S19 (rClo_ok ring2 ring3 A13 c13 _ (S19.rdOf (i := 0) rfl) ring_ok.2.2.1 ring_app.2.2.1 ring_def.2.2.1) (Nat.le_refl _) fun A19 c19 a21 X21 h21 S21 => ?_
  refine mv h21 rfl rfl fun a22 h22 => ?_
  refine vx h22 rfl rfl rfl fun a23 h23 => ?_
  refine vx h23 rfl rfl rfl fun a24 h24 => ?_
  refine sl_store0 h24 (wn rfl) ⟨rfl, rfl⟩ (h24.ev rfl) (h24.ev rfl) rfl (by kernel_rfl) S21 (i := 2) rfl rfl rfl fun X25 S25 => ?_
  refine nsr ?_
  refine sv (v := ringV ring3 A19 c19) h24 (ex_loads (by kernel_rfl) (by kernel_rfl) (h24.ev rfl) (S25.cellsAll (i := 2) rfl)) fun a26 h26 => ?_
  refine sl_ownt h26 (wn rfl) (ex_call (fun _ _ => by kernel_rfl) (h26.evs rfl) rfl) rfl rfl S25 (rApp_ok ring3 ring4 (bs [120]) A19 c19 _ (S25.rdOf (i := 0) rfl) ring_ok.2.2.2.1 (by rw [bs_size]; decide) ring_app.2.2.2 ring_def.2.2.2) (Nat.le_refl _) fun A24 c24 a27 X27 h27 S27 => ?_
  refine mv h27 rfl rfl fun a28 h28 => ?_
  refine vx h28 rfl rfl rfl fun a29 h29 => ?_
  refine vx h29 rfl rfl rfl fun a30 h30 => ?_
  refine vx h30 rfl rfl rfl fun a31 h31 => ?_
  refine sl_store0 h31 (wn rfl) ⟨rfl, rfl⟩ (h31.ev rfl) (h31.ev rfl) rfl (by kernel_rfl) S27 (i := 3) rfl rfl rfl fun X32 S32 => ?_
  refine nsr ?_
  refine sv h31 (ex_loads (by kernel_rfl) (by kernel_rfl) (h31.ev rfl) (S32.cellsAll (i := 3) rfl)) fun a33 h33 => ?_
  refine sl_store0 h33 (wn rfl) ⟨rfl, rfl⟩ (h33.ev rfl) (h33.ev rfl) rfl (by kernel_rfl) S32 (i := 5) rfl rfl rfl fun X34 S34 => ?_
  refine st_nil (go_then (wp_ret ?_))
  refine finc h33 rfl rfl S34 (i := 5) rfl (by kernel_rfl) (by kernel_rfl) ?_
  exact ⟨A24, c24, rfl, S34.ownB (i := 0) rfl, S34.below⟩
 case hB => kernel_rfl
end Go.Proofs.YtmlilplbdpjfcaaGreatDoor
