/-
  Chapter 20: the statements are awake.
-/
import Derived.Test.YtmlilplbdpjfcaaGreatDoorRg27
namespace Go.Proofs.YtmlilplbdpjfcaaGreatDoor
set_option linter.unusedVariables false
set_option linter.unusedSimpArgs false
set_option maxRecDepth 4000
open Go.RowKit Go.Sort
theorem ok_i6 {r : RngP} (h : (chkR r).2 = 0) : ∀ x ∈ r.rs, I6 x.l := fun x hx => by
 have hk := ok_iff.1 h
 obtain ⟨k, hk1, rfl⟩ := List.getElem_of_mem hx
 have := recs_bd r hk.h.rr.2.2.2 k hk1 (fun m hm _ => hk.all m hm)
 have := hk.h.len
 unfold I6; omega
theorem ok_len {r : RngP} (h : (chkR r).2 = 0) : r.rs.length ≤ 1000 := by have := (ok_iff.1 h).h.len; omega
attribute [local irreducible] ring4 ring5 ring6 ring7
theorem aw_rooms (A : Option Addr) (c : Nat) (w : World) (hr : Rd w w.heap.size A (recsV ring4.rs)) : Calls Tryz.prog 26 #[ringV ring4 A c] w fun e w' => e = .returned (.tuple #[.int .i64 0, .int .i64 3, .int .i64 0]) ∧ Below w.heap.size w w' := by
 have h := RoomsOf_any ring4 A c w hr (ok_len ring_ok.2.2.2.2) (ok_i6 ring_ok.2.2.2.2)
 rw [if_pos ring_ok.2.2.2.2, ring_more.1] at h
 exact h
theorem aw_bytes (A : Option Addr) (c : Nat) (w : World) (hr : Rd w w.heap.size A (recsV ring4.rs)) : Calls Tryz.prog 46 #[ringV ring4 A c] w fun e w' => e = .returned (.tuple #[.string (bs (rbL ring4).flatten), .int .i64 0]) ∧ Below w.heap.size w w' := by
 have h := RingBytes_any ring4 A c w hr (ok_len ring_ok.2.2.2.2) (ok_i6 ring_ok.2.2.2.2)
 rw [if_pos ring_ok.2.2.2.2, ring_ok.2.2.2.2] at h
 exact h
theorem aw_in (w : World) : Calls Tryz.prog 22 #[.string (bs (rbL ring4).flatten)] w fun e w' => ∃ A c, e = .returned (.tuple #[ringV ring7 A c, .int .i64 0]) ∧ w'.ownsRow w.heap.size 98 3 (.slice A ring7.rs.length c) ring7.rs.length (recsV ring7.rs) ∧ Below w.heap.size w w' := by
 have h := RingIn_l (rbL ring4).flatten w (by rw [ring_more.2.2.2.2.2.2.2]; decide)
 obtain ⟨g1, g2⟩ := in_good ring_in
 rw [ring_more.2.2.2.2.2.2.1] at g1
 rw [if_pos ring_more.2.2.2.2.2.2.1] at g2
 rw [g1, g2] at h
 exact h
theorem aw_rst (A : Option Addr) (c : Nat) (w : World) (hr : Rd w w.heap.size A (recsV ring4.rs)) : Calls Tryz.prog 15 #[ringV ring4 A c, .int .i64 0, .int .i64 897] w fun e w' => ∃ A' c', e = .returned (.tuple #[ringV ring5 A' c', .int .i64 0]) ∧ w'.ownsRow w.heap.size 98 3 (.slice A' ring5.rs.length c') ring5.rs.length (recsV ring5.rs) ∧ Below w.heap.size w w' := by
 have h := Restarted_any ring4 A c 0 897 w hr (ok_len ring_ok.2.2.2.2) (ok_i6 ring_ok.2.2.2.2)
 rw [if_pos ring_more.2.1, ring_more.2.1] at h
 rw [ring_def5] at h
 exact h
theorem aw_app (A : Option Addr) (c : Nat) (w : World) (hr : Rd w w.heap.size A (recsV ring5.rs)) : Calls Tryz.prog 30 #[ringV ring5 A c, .string (bs (zerosL 900))] w fun e w' => ∃ A' c', e = .returned (.tuple #[ringV ring6 A' c', .int .i64 1345, .int .i64 0]) ∧ w'.ownsRow w.heap.size 98 3 (.slice A' ring6.rs.length c') ring6.rs.length (recsV ring6.rs) ∧ Below w.heap.size w w' := by
 have h := Appended_any ring5 A c (bs (zerosL 900)) w hr (ok_len ring_more.2.2.1) (ok_i6 ring_more.2.2.1)
 rw [if_pos ring_more.2.2.1, if_pos ⟨ring_more.2.2.1, ring_more.2.2.2.1⟩, ring_more.2.2.2.2.1, if_pos ring_more.2.2.1, ring_more.2.2.2.1] at h
 have e : appR ring5 (bs (zerosL 900)) = ring6 := by unfold appR; rw [if_pos ring_more.2.2.2.1, ring_def6]
 rw [e] at h
 exact h
theorem awake_any (w : World) : Calls Tryz.prog 11 #[] w fun e w' => e = .returned (.bool true) ∧ Below w.heap.size w w' := by
 have hZ : ∀ w, Calls Tryz.prog 56 #[.int .i64 900] w fun e w' => e = .returned (.string (bs (zerosL 900))) ∧ Below w.heap.size w w' := fun w => Zeros_any 900 w (by decide)
 have hS : ∀ A A' c c' w, Rd w w.heap.size A (recsV ring7.rs) → Rd w w.heap.size A' (recsV ring7.rs) → Calls Tryz.prog 19 #[ringV ring7 A c, ringV ring7 A' c'] w fun e w' => e = .returned (.bool true) ∧ Below w.heap.size w w' := fun A A' c c' w h1 h2 => by
  have h := rSame_any ring7 ring7 A A' c c' w h1 h2 (ok_len ring_more.2.2.2.2.2.2.1) (ok_len ring_more.2.2.2.2.2.2.1)
  rw [decide_eq_true rfl] at h; exact h
 refine st_enter (N := 83) Tryz.func11 rfl rfl rfl (fun a0 h0 => ?_)
 have S0 := St.init w
 refine st_seq (st_reg ?_)
 refine ma h0 rfl rfl fun a1 h1 => ?_
 refine nsr ?_
 refine sl_ownt h1 (wn rfl) (ex_call (fun _ _ => by kernel_rfl) (h1.evs rfl) rfl) rfl rfl S0 (Ring_any _) (Nat.le_refl _) fun A16 c16 a2 X2 h2 S2 => ?_
 refine sl_bel h2 (wn rfl) (ex_call (fun _ _ => by kernel_rfl) (h2.evs rfl) rfl) rfl rfl S2 (aw_rooms A16 c16 _ (S2.rdOf (i := 0) rfl)) fun a3 X3 h3 S3 => ?_
 refine mv h3 rfl rfl fun a4 h4 => ?_
 refine vx h4 rfl rfl rfl fun a5 h5 => ?_
 refine vx h5 rfl rfl rfl fun a6 h6 => ?_
 refine vx h6 rfl rfl rfl fun a7 h7 => ?_
 refine ma h7 rfl rfl fun a8 h8 => ?_
 refine ma h8 rfl rfl fun a9 h9 => ?_
 refine ma h9 rfl rfl fun a10 h10 => ?_
 refine nsr ?_
 refine sl_ownt h10 (wn rfl) (ex_call (fun _ _ => by kernel_rfl) (h10.evs rfl) rfl) rfl rfl S3 (Ring_any _) (Nat.le_refl _) fun A22 c22 a11 X11 h11 S11 => ?_
 refine sl_bel h11 (wn rfl) (ex_call (fun _ _ => by kernel_rfl) (h11.evs rfl) rfl) rfl rfl S11 (aw_bytes A22 c22 _ (S11.rdOf (i := 0) rfl)) fun a12 X12 h12 S12 => ?_
 refine mv h12 rfl rfl fun a13 h13 => ?_
 refine vx h13 rfl rfl rfl fun a14 h14 => ?_
 refine vx h14 rfl rfl rfl fun a15 h15 => ?_
 refine ma h15 rfl rfl fun a16 h16 => ?_
 refine ma h16 rfl rfl fun a17 h17 => ?_
 refine nsr ?_
 refine mv h17 rfl rfl fun a18 h18 => ?_
 refine sl_ownt h18 (wn rfl) (ex_call (fun _ _ => by kernel_rfl) (h18.evs rfl) rfl) rfl rfl S12 (aw_in _) (Nat.le_refl _) fun A28 c28 a19 X19 h19 S19 => ?_
 refine mv h19 rfl rfl fun a20 h20 => ?_
 refine vx h20 rfl rfl rfl fun a21 h21 => ?_
 refine vx h21 rfl rfl rfl fun a22 h22 => ?_
 refine na (.agg #[.int .i64 0, .int .i64 0, .int .i64 0, .int .i64 0, .int .i64 0, .int .i64 0, .int .i64 0, .slice none 0 0, .int .i64 0]) h22 rfl S19 fun b6 a23 X23 gb6 h23 S23 => ?_
 refine sl_store0 h23 (wn rfl) ⟨rfl, rfl⟩ (h23.ev rfl) (h23.ev rfl) rfl (by kernel_rfl) S23 (i := 0) rfl rfl rfl fun X24 S24 => ?_
 refine ma h23 rfl rfl fun a25 h25 => ?_
 refine nsr ?_
 refine sl_ownt h25 (wn rfl) (ex_call (fun _ _ => by kernel_rfl) (h25.evs rfl) rfl) rfl rfl S24 (Ring_any _) (Nat.le_refl _) fun A32 c32 a26 X26 h26 S26 => ?_
 refine sl_ownt h26 (wn rfl) (ex_call (fun _ _ => by kernel_rfl) (h26.evs rfl) rfl) rfl rfl S26 (aw_rst A32 c32 _ (S26.rdOf (i := 0) rfl)) (Nat.le_refl _) fun A33 c33 a27 X27 h27 S27 => ?_
 refine mv h27 rfl rfl fun a28 h28 => ?_
 refine vx h28 rfl rfl rfl fun a29 h29 => ?_
 refine vx h29 rfl rfl rfl fun a30 h30 => ?_
 refine na (.agg #[.int .i64 0, .int .i64 0, .int .i64 0, .int .i64 0, .int .i64 0, .int .i64 0, .int .i64 0, .slice none 0 0, .int .i64 0]) h30 rfl S27 fun b8 a31 X31 gb8 h31 S31 => ?_
 refine sl_store0 h31 (wn rfl) ⟨rfl, rfl⟩ (h31.ev rfl) (h31.ev rfl) rfl (by kernel_rfl) S31 (i := 0) rfl rfl rfl fun X32 S32 => ?_
 refine ma h31 rfl rfl fun a33 h33 => ?_
 refine st_nil (go_then (st_seq ?_))
 apply dr_flowM h33 (fun _ => False) [] [(8, 26)] [false, false, true, true, true, true, true, true, true, true] _ (by kernel_rfl) all0
 case h =>
  refine qv (v := ringV ring5 A33 c33) h33 (fun X hX => ex_loads (by kernel_rfl) (by kernel_rfl) (h33.ev rfl) ((S32.grow (Grw.below hX)).cellsAll (i := 0) rfl)) fun a34 h34 => ?_
  refine sq_bel h34 (wn rfl) rfl rfl (fun X => (ex_call (fun _ _ => by kernel_rfl) (h34.evs rfl) rfl)) (fun X hX => hZ _) fun a35 h35 => ?_
  refine sq_nil ?_
  apply nm_step (O := (fun _ => False)) (k := 2) (deps := []) (R := RowU _ _ _ _ _ _) h35 rfl rfl rfl all0 RowU.stable all0 ?h3
  case hx => exact fun X hX hΦ => lv_ownt (ex_call (fun _ _ => by kernel_rfl) (h35.evs rfl) rfl) (aw_app A33 c33 _ ((S32.grow (Grw.below hX)).rdOf (i := 1) rfl)) hX.size
  case h3 => exact all1 (RowU.newT (by decide))
  intro v39 a36 h36
  apply nm_mov (k := 3) (deps := [2]) (kx := 2) (src := 39) h36 rfl (.inl rfl) rfl rfl ⟨rfl, rfl⟩ rfl
  intro v36 a37 h37
  apply nm_ext (k := 4) (deps := [2, 3]) (kx := 3) (src := 36) (i := 0) h37 rfl rfl rfl rfl ⟨rfl, rfl⟩ rfl
  case hx =>
   intro X hΦ
   obtain ⟨_, _, e1, _⟩ := (told_get (k := 2) hΦ rfl rfl)
   exact ⟨_, _, ((MovS.get h36 rfl (told_get (k := 3) hΦ rfl rfl)).trans e1), rfl⟩
  intro v40 a38 h38
  apply nm_ext (k := 5) (deps := [2, 3]) (kx := 3) (src := 36) (i := 1) h38 rfl rfl rfl rfl ⟨rfl, rfl⟩ rfl
  case hx =>
   intro X hΦ
   obtain ⟨_, _, e1, _⟩ := (told_get (k := 2) hΦ rfl rfl)
   exact ⟨_, _, ((MovS.get h36 rfl (told_get (k := 3) hΦ rfl rfl)).trans e1), rfl⟩
  intro v41 a39 h39
  apply nm_ext (k := 6) (deps := [2, 3]) (kx := 3) (src := 36) (i := 2) h39 rfl rfl rfl rfl ⟨rfl, rfl⟩ rfl
  case hx =>
   intro X hΦ
   obtain ⟨_, _, e1, _⟩ := (told_get (k := 2) hΦ rfl rfl)
   exact ⟨_, _, ((MovS.get h36 rfl (told_get (k := 3) hΦ rfl rfl)).trans e1), rfl⟩
  intro v42 a40 h40
  apply nm_step (O := (fun _ => False)) (k := 7) (deps := []) (R := NewAny _ 9 _) h40 rfl rfl rfl all0 NewAny.stable all0 (all1 NewAny.newT)
  case hx => exact fun X hX hΦ => lv_any (ex_alloc (z := .agg #[.int .i64 0, .int .i64 0, .int .i64 0, .int .i64 0, .int .i64 0, .int .i64 0, .int .i64 0, .slice none 0 0, .int .i64 0]) (by kernel_rfl)) hX.size rfl
  intro v10 a41 h41
  apply nm_store (k := 8) (deps := [2, 3, 4, 7]) (kx := 7) (x := 10) (y := 40) (Y := slotY 40) h41 rfl ⟨rfl, rfl⟩ rfl all0 ⟨rfl, rfl⟩ (h41.slot 40 _ rfl) (slotY_dep (ky := 4) ⟨rfl, rfl⟩) rfl rfl (n := 9) (by kernel_rfl) all0
  case hx =>
   intro X hX hΦ
   obtain ⟨_, _, e1, _⟩ := (told_get (k := 2) hΦ rfl rfl)
   subst e1
   obtain rfl := MovS.get h36 rfl (told_get (k := 3) hΦ rfl rfl)
   obtain rfl := ExtS.get h37 rfl rfl (told_get (k := 4) hΦ rfl rfl)
   exact ⟨(told_get (k := 7) hΦ rfl rfl), rfl, rfl⟩
  intro vs8
  apply nm_mov (k := 9) (deps := [2, 3, 5]) (kx := 5) (src := 41) h41 rfl (.inr rfl) rfl rfl ⟨rfl, rfl⟩ rfl
  intro v11 a42 h42
  refine nm_end (O := (fun _ => False)) all0 fun X43 hX43 hΦ43 => ?_
  obtain ⟨A39, c39, rfl, qr39⟩ := told_all hΦ43 (k := 2) rfl
  obtain rfl := MovS.get h36 rfl (told_all hΦ43 (k := 3) rfl)
  obtain rfl := ExtS.get h37 rfl rfl (told_all hΦ43 (k := 4) rfl)
  obtain rfl := ExtS.get h38 rfl rfl (told_all hΦ43 (k := 5) rfl)
  obtain rfl := ExtS.get h39 rfl rfl (told_all hΦ43 (k := 6) rfl)
  obtain ⟨b10, rfl, gb10, qb10⟩ := StoY.slot (v := vs8) h41 rfl rfl (told_all hΦ43 (k := 8) rfl)
  obtain rfl := MovS.get h41 rfl (told_all hΦ43 (k := 9) rfl)
  have S43 := S32.newBoxRow (Grw.below hX43) qb10 gb10 qr39 (by decide)
  refine ma h42 rfl rfl fun a44 h44 => ?_
  refine nsr ?_
  refine sl_ownt h44 (wn rfl) (ex_call (fun _ _ => by kernel_rfl) (h44.evs rfl) rfl) rfl rfl S43 (Ring_any _) (Nat.le_refl _) fun A44 c44 a45 X45 h45 S45 => ?_
  refine sl_ownt h45 (wn rfl) (ex_call (fun _ _ => by kernel_rfl) (h45.evs rfl) rfl) rfl rfl S45 (rClo_ok ring4 ring7 A44 c44 _ (S45.rdOf (i := 0) rfl) ring_ok.2.2.2.2 ring_more.2.2.2.2.2.1 ring_def7) (Nat.le_refl _) fun A45 c45 a46 X46 h46 S46 => ?_
  refine mv h46 rfl rfl fun a47 h47 => ?_
  refine vx h47 rfl rfl rfl fun a48 h48 => ?_
  refine vx h48 rfl rfl rfl fun a49 h49 => ?_
  refine na (.agg #[.int .i64 0, .int .i64 0, .int .i64 0, .int .i64 0, .int .i64 0, .int .i64 0, .int .i64 0, .slice none 0 0, .int .i64 0]) h49 rfl S46 fun b13 a50 X50 gb13 h50 S50 => ?_
  refine sl_store0 h50 (wn rfl) ⟨rfl, rfl⟩ (h50.ev rfl) (h50.ev rfl) rfl (by kernel_rfl) S50 (i := 0) rfl rfl rfl fun X51 S51 => ?_
  refine ma h50 rfl rfl fun a52 h52 => ?_
  refine nsr ?_
  refine mv h52 rfl rfl fun a53 h53 => ?_
  refine sv h53 (ex_eql (h53.ev rfl) (h53.ev rfl)) fun a54 h54 => ?_
  refine mv h54 rfl rfl fun a55 h55 => ?_
  refine sl_val h55 (wanted_yes h55 _ rfl rfl rfl (rfl)) (ex_move (h55.ev rfl)) rfl rfl fun a56 h56 => ?_
  refine sl_val h56 (wanted_yes h56 _ rfl rfl rfl (rfl)) (ex_eql (h56.ev rfl) (h56.ev rfl)) rfl rfl fun a57 h57 => ?_
  refine sv h57 (ex_pick_t (h57.ev rfl) (rfl) (h57.ev rfl)) fun a58 h58 => ?_
  refine mv h58 rfl rfl fun a59 h59 => ?_
  refine sl_val h59 (wanted_yes h59 _ rfl rfl rfl (rfl)) (ex_move (h59.ev rfl)) rfl rfl fun a60 h60 => ?_
  refine sl_val h60 (wanted_yes h60 _ rfl rfl rfl (rfl)) (ex_eql (h60.ev rfl) (h60.ev rfl)) rfl rfl fun a61 h61 => ?_
  refine sv h61 (ex_pick_t (h61.ev rfl) (rfl) (h61.ev rfl)) fun a62 h62 => ?_
  refine mv h62 rfl rfl fun a63 h63 => ?_
  refine sl_val h63 (wanted_yes h63 _ rfl rfl rfl (rfl)) (ex_move (h63.ev rfl)) rfl rfl fun a64 h64 => ?_
  refine sl_val h64 (wanted_yes h64 _ rfl rfl rfl (rfl)) (ex_eql (h64.ev rfl) (h64.ev rfl)) rfl rfl fun a65 h65 => ?_
  refine sv h65 (ex_pick_t (h65.ev rfl) (rfl) (h65.ev rfl)) fun a66 h66 => ?_
  refine mv h66 rfl rfl fun a67 h67 => ?_
  refine sl_val h67 (wanted_yes h67 _ rfl rfl rfl (rfl)) (ex_move (h67.ev rfl)) rfl rfl fun a68 h68 => ?_
  refine sl_val h68 (wanted_yes h68 _ rfl rfl rfl (rfl)) (ex_eql (h68.ev rfl) (h68.ev rfl)) rfl rfl fun a69 h69 => ?_
  refine sv h69 (ex_pick_t (h69.ev rfl) (rfl) (h69.ev rfl)) fun a70 h70 => ?_
  refine mv h70 rfl rfl fun a71 h71 => ?_
  refine sl_val (v := ringV ring7 A28 c28) h71 (wanted_yes h71 _ rfl rfl rfl (rfl)) (ex_loads (by kernel_rfl) (by kernel_rfl) (h71.ev rfl) (S51.cellsAll (i := 8) rfl)) rfl rfl fun a72 h72 => ?_
  refine sl_val (v := ringV ring7 A45 c45) h72 (wanted_yes h72 _ rfl rfl rfl (rfl)) (ex_loads (by kernel_rfl) (by kernel_rfl) (h72.ev rfl) (S51.cellsAll (i := 0) rfl)) rfl rfl fun a73 h73 => ?_
  refine sl_bel h73 (wanted_yes h73 _ rfl rfl rfl (rfl)) (ex_call (fun _ _ => by kernel_rfl) (h73.evs rfl) rfl) rfl rfl S51 (hS A28 A45 c28 c45 _ (S51.rdOf (i := 9) rfl) (S51.rdOf (i := 1) rfl)) fun a74 X74 h74 S74 => ?_
  refine sv h74 (ex_pick_t (h74.ev rfl) (rfl) (h74.ev rfl)) fun a75 h75 => ?_
  refine mv h75 rfl rfl fun a76 h76 => ?_
  refine sl_val h76 (wanted_yes h76 _ rfl rfl rfl (rfl)) (ex_move (h76.ev rfl)) rfl rfl fun a77 h77 => ?_
  refine sl_val h77 (wanted_yes h77 _ rfl rfl rfl (rfl)) (ex_eql (h77.ev rfl) (h77.ev rfl)) rfl rfl fun a78 h78 => ?_
  refine sv h78 (ex_pick_t (h78.ev rfl) (rfl) (h78.ev rfl)) fun a79 h79 => ?_
  refine mv h79 rfl rfl fun a80 h80 => ?_
  refine sl_val h80 (wanted_yes h80 _ rfl rfl rfl (rfl)) (ex_move (h80.ev rfl)) rfl rfl fun a81 h81 => ?_
  refine sl_val h81 (wanted_yes h81 _ rfl rfl rfl (rfl)) (ex_eql (h81.ev rfl) (h81.ev rfl)) rfl rfl fun a82 h82 => ?_
  refine sv h82 (ex_pick_t (h82.ev rfl) (rfl) (h82.ev rfl)) fun a83 h83 => ?_
  refine mv h83 rfl rfl fun a84 h84 => ?_
  refine sl_val h84 (wanted_yes h84 _ rfl rfl rfl (rfl)) (ex_move (h84.ev rfl)) rfl rfl fun a85 h85 => ?_
  refine sl_val h85 (wanted_yes h85 _ rfl rfl rfl (rfl)) (ex_eql (h85.ev rfl) (h85.ev rfl)) rfl rfl fun a86 h86 => ?_
  refine sv h86 (ex_pick_t (h86.ev rfl) (rfl) (h86.ev rfl)) fun a87 h87 => ?_
  refine ma h87 rfl rfl fun a88 h88 => ?_
  refine st_nil (go_then (wp_ret ?_))
  refine fin1 h88 rfl rfl ?_
  exact ⟨rfl, S74.below⟩
 case hB => kernel_rfl
end Go.Proofs.YtmlilplbdpjfcaaGreatDoor
