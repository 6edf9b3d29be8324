/-
  RingFails: the walk.
-/
import Derived.Test.YtmlilplbdpjfcaaGreatDoorWRgFl
import Derived.Test.YtmlilplbdpjfcaaGreatDoorWRgRs
import Derived.Test.YtmlilplbdpjfcaaGreatDoorWRgPg
namespace Go.Proofs.YtmlilplbdpjfcaaGreatDoor
set_option linter.unusedVariables false
set_option linter.unusedSimpArgs false
set_option maxRecDepth 4000
open Go.RowKit Go.Sort
theorem rsa_full {r : RngP} (h : OkP r) (hs : r.r.s < 60000) (hz : rsaE r r.r.c r.r.o ≠ 0) : rsaE r r.r.c r.r.o = 16 := by
 have h1 : (r.r.o == nxtR r.nx + 1 || hasR r.rs r.r.o) = true := by
  rcases Nat.eq_zero_or_pos r.rs.length with h0 | h0
  · obtain ⟨m1, m2⟩ := h.next.2 (List.eq_nil_of_length_eq_zero h0)
    rw [Bool.or_eq_true]
    left
    rw [beq_iff_eq]
    unfold nxtR; omega
  · rw [Bool.or_eq_true]
    right
    exact hasR_iff.2 ⟨0, h0, h.head h0⟩
 have h2 : (r.r.c == 0 || (decide (r.r.o ≤ r.r.c) && hasR r.rs r.r.c)) = true := by
  rcases h.tl.2.1 with h3 | h3
  · rw [h3]; rfl
  · obtain ⟨k, hk, hl⟩ := hasR_iff.1 h3
    have h4 := h.le (Nat.zero_le k) hk
    rw [h.head (by omega), hl] at h4
    rw [h3, decide_eq_true h4]; simp
 unfold rsaE at hz ⊢
 rw [h1, h2, decide_eq_true hs] at hz ⊢
 rw [firstE_c] at hz ⊢
 split at hz
 · exact absurd rfl hz
 · rename_i h5
   rw [if_neg h5]
   rcases unl_cases (decide (nxtR r.nx ≤ 100000000)) 16 with h6 | h6
   · exact absurd h6 h5
   · exact h6
theorem clo_full {r : RngP} (hz : cloE r ≠ 0) : cloE r = 16 := by
 rcases unl_cases (decide (nxtR r.nx ≤ 100000000)) 16 with h6 | h6
 · exact absurd h6 hz
 · exact h6
theorem rwx_any (N : RngP) (hok : OkP N) (I : Nat) (hI : (I : Int) = N.r.s % 2) (A : Option Addr) (c : Nat) (w : World) (hr : Rd w w.heap.size A (recsV N.rs)) :
 Calls Tryz.prog 41 #[ringV N A c, .int .i64 0] w fun e w' => e = .returned (.tuple #[.agg (wrV (((8 * I : Nat) : Int), rsL N.r N.pg)).toArray, .int .i64 0]) ∧ Below w.heap.size w w' := by
 have hz : rwrE N 0 = 0 := by
  unfold rwrE
  rw [ok_iff.2 hok]; rfl
 have h := RestartWrite_any N A c 0 w hr (by have := hok.h.len; omega) (ok_i6 (ok_iff.2 hok))
 unfold rwrV at h
 rw [hz, if_pos rfl, ← hI] at h
 have e : (0 : Int) + 8 * (I : Int) = ((8 * I : Nat) : Int) := by omega
 rw [e] at h
 exact h
theorem rbs_len {r : RngP} (h : OkP r) : rbS r = (rbL r).flatten ∧ ((rbL r).flatten.length : Int) = r.pg * 512 := by
 refine ⟨by unfold rbS; rw [if_pos (ok_iff.2 h)], ?_⟩
 have h1 := flat512 (rbL r) (rbK_all r h _)
 have h2 : (rbL r).length = r.pg.toNat := rbK_length r _
 have := h.h.pg
 omega
set_option maxHeartbeats 4000000 in
theorem RingFails_any (r : RngP) (hI : RngI r) (A : Option Addr) (c : Nat) (xs : List ByteArray) (Ax : Option Addr) (cx : Nat) (fl : List Bool) (Af : Option Addr) (cf : Nat) (ys : List ByteArray) (Ay : Option Addr) (cy : Nat) (gl : List Bool) (Ag : Option Addr) (cg : Nat) (w : World)
 (hr : Rd w w.heap.size A (recsV r.rs)) (hx : Rd w w.heap.size Ax (xs.map fun s => Value.string s)) (hf : Rd w w.heap.size Af (fl.map fun s => Value.bool s)) (hy : Rd w w.heap.size Ay (ys.map fun s => Value.string s)) (hg : Rd w w.heap.size Ag (gl.map fun s => Value.bool s)) :
 Calls Tryz.prog 9 #[ringV r A c, failV xs.length Ax cx fl.length Af cf, failV ys.length Ay cy gl.length Ag cg] w fun e w' => e = .returned (.bool true) ∧ Below w.heap.size w w' := by
 refine st_enter (N := 132) Tryz.func9 rfl rfl rfl (fun a0 h0 => ?_)
 have S0 := St.init w
 refine st_seq (st_reg ?_)
 refine nb h0 rfl rfl S0 fun b3 a1 X1 gb3 h1 S1 => ?_
 refine nb h1 rfl rfl S1 fun b4 a2 X2 gb4 h2 S2 => ?_
 refine nb h2 rfl rfl S2 fun b5 a3 X3 gb5 h3 S3 => ?_
 refine ma h3 rfl rfl fun a4 h4 => ?_
 refine st_nil (go_then (st_seq (st_seq (st_reg ?_))))
 refine sl_bel h4 (wn rfl) (ex_call (fun _ _ => by kernel_rfl) (h4.evs rfl) rfl) rfl rfl S3 (awake_any _) fun a5 X5 h5 S5 => ?_
 refine sv h5 (ex_not (h5.ev rfl)) fun a6 h6 => ?_
 refine st_nil (go_then ?_)
 refine st_if_f (h6.ev rfl) (rfl) ?_
 refine wp_skip (go_then (st_seq (st_seq (st_reg ?_))))
 refine sv (v := ringV r A c) h6 (ex_loads (by kernel_rfl) (by kernel_rfl) (h6.ev rfl) (S5.cellsAll (i := 2) rfl)) fun a7 h7 => ?_
 refine sl_bel h7 (wn rfl) (ex_call (fun _ _ => by kernel_rfl) (h7.evs rfl) rfl) rfl rfl S5 (Few_any r A c _ (S5.rd0 hr)) fun a8 X8 h8 S8 => ?_
 refine sv h8 (ex_not (h8.ev rfl)) fun a9 h9 => ?_
 refine mv h9 rfl rfl fun a10 h10 => ?_
 apply sl_or (x := (chkR r).2 != 0) h10 S8 21 rfl 4 25
 case hf =>
  intro gc21
  have hfw : fewB r = true := by simpa using gc21
  have hlen := few_le hfw
  have hx6 : ∀ x ∈ r.rs, I6 x.l := fun x hx => (hI.rs x hx).1
  refine sl_val (v := ringV r A c) h10 (wanted_yes h10 _ rfl rfl rfl gc21) (ex_loads (by kernel_rfl) (by kernel_rfl) (h10.ev rfl) (S8.cellsAll (i := 2) rfl)) rfl rfl fun a11 h11 => ?_
  refine sl_bel h11 (wanted_yes h11 _ rfl rfl rfl gc21) (ex_call (fun _ _ => by kernel_rfl) (h11.evs rfl) rfl) rfl rfl S8 (rRingErr_any r A c _ (S8.rd0 hr) hlen hx6) fun a12 X12 h12 S12 => ?_
  refine sy h12 rfl rfl rfl gc21 (ex_neq (h12.ev rfl) (h12.ev rfl)) rfl rfl fun a13 h13 => ?_
  refine sv h13 (ex_pick_f (h13.ev rfl) gc21 (h13.ev rfl)) fun a14 h14 => ?_
  exact st_nil ⟨h14.mid (m := [(_, _), (_, _), (_, _)]) rfl, S12⟩
 case ht =>
  intro gc21
  refine no h10 rfl rfl rfl gc21 rfl rfl fun a15 h15 => ?_
  refine no h15 rfl rfl rfl gc21 rfl rfl fun a16 h16 => ?_
  refine no h16 rfl rfl rfl gc21 rfl rfl fun a17 h17 => ?_
  refine sv h17 (ex_pick_t (h17.ev rfl) gc21 (h17.ev rfl)) fun a18 h18 => ?_
  exact st_nil ⟨h18.mid (m := [(_, _), (_, _), (_, _)]) rfl, S8⟩
 case h =>
  rintro a19 X19 ⟨h19, S19⟩
  refine mv h19 rfl rfl fun a20 h20 => ?_
  apply sl_or (x := decide ((xs.length : Int) > 6)) h20 S19 26 rfl 5 31
  case hf =>
   intro gc26
   refine sy h20 rfl rfl rfl gc26 (ex_field (off := 0) (j := 0) (by kernel_rfl) (h20.ev rfl) rfl) rfl rfl fun a21 h21 => ?_
   refine sy h21 rfl rfl rfl gc26 (ex_load (by kernel_rfl) (h21.ev rfl) (S19.cell (i := 1) rfl rfl)) rfl rfl fun a22 h22 => ?_
   refine sy h22 rfl rfl rfl gc26 (ex_len Tryz.underlying80 (h22.ev rfl)) rfl rfl fun a23 h23 => ?_
   refine sy h23 rfl rfl rfl gc26 (ex_gtr (h23.ev rfl) (h23.ev rfl)) rfl rfl fun a24 h24 => ?_
   refine sv h24 (ex_pick_f (h24.ev rfl) gc26 (h24.ev rfl)) fun a25 h25 => ?_
   exact st_nil ⟨h25.mid (m := [(_, _), (_, _), (_, _), (_, _)]) rfl, S19⟩
  case ht =>
   intro gc26
   refine no h20 rfl rfl rfl gc26 rfl rfl fun a26 h26 => ?_
   refine no h26 rfl rfl rfl gc26 rfl rfl fun a27 h27 => ?_
   refine no h27 rfl rfl rfl gc26 rfl rfl fun a28 h28 => ?_
   refine no h28 rfl rfl rfl gc26 rfl rfl fun a29 h29 => ?_
   refine sv h29 (ex_pick_t (h29.ev rfl) gc26 (h29.ev rfl)) fun a30 h30 => ?_
   exact st_nil ⟨h30.mid (m := [(_, _), (_, _), (_, _), (_, _)]) rfl, S19⟩
  case h =>
   rintro a31 X31 ⟨h31, S31⟩
   refine mv h31 rfl rfl fun a32 h32 => ?_
   apply sl_or (x := decide ((ys.length : Int) > 6)) h32 S31 32 rfl 5 37
   case hf =>
    intro gc32
    refine sy h32 rfl rfl rfl gc32 (ex_field (off := 0) (j := 0) (by kernel_rfl) (h32.ev rfl) rfl) rfl rfl fun a33 h33 => ?_
    refine sy h33 rfl rfl rfl gc32 (ex_load (by kernel_rfl) (h33.ev rfl) (S31.cell (i := 0) rfl rfl)) rfl rfl fun a34 h34 => ?_
    refine sy h34 rfl rfl rfl gc32 (ex_len Tryz.underlying80 (h34.ev rfl)) rfl rfl fun a35 h35 => ?_
    refine sy h35 rfl rfl rfl gc32 (ex_gtr (h35.ev rfl) (h35.ev rfl)) rfl rfl fun a36 h36 => ?_
    refine sv h36 (ex_pick_f (h36.ev rfl) gc32 (h36.ev rfl)) fun a37 h37 => ?_
    exact st_nil ⟨h37.mid (m := [(_, _), (_, _), (_, _), (_, _)]) rfl, S31⟩
   case ht =>
    intro gc32
    refine no h32 rfl rfl rfl gc32 rfl rfl fun a38 h38 => ?_
    refine no h38 rfl rfl rfl gc32 rfl rfl fun a39 h39 => ?_
    refine no h39 rfl rfl rfl gc32 rfl rfl fun a40 h40 => ?_
    refine no h40 rfl rfl rfl gc32 rfl rfl fun a41 h41 => ?_
    refine sv h41 (ex_pick_t (h41.ev rfl) gc32 (h41.ev rfl)) fun a42 h42 => ?_
    exact st_nil ⟨h42.mid (m := [(_, _), (_, _), (_, _), (_, _)]) rfl, S31⟩
   case h =>
    rintro a43 X43 ⟨h43, S43⟩
    refine mv h43 rfl rfl fun a44 h44 => ?_
    apply sl_or (x := decide (r.r.s ≥ 60000)) h44 S43 38 rfl 5 43
    case hf =>
     intro gc38
     refine sy h44 rfl rfl rfl gc38 (ex_field (off := 1) (j := 1) (by kernel_rfl) (h44.ev rfl) rfl) rfl rfl fun a45 h45 => ?_
     refine sy h45 rfl rfl rfl gc38 (ex_field (off := 0) (j := 1) (by kernel_rfl) (h45.ev rfl) rfl) rfl rfl fun a46 h46 => ?_
     refine sy h46 rfl rfl rfl gc38 (ex_load (by kernel_rfl) (h46.ev rfl) (S43.cell (i := 2) rfl rfl)) rfl rfl fun a47 h47 => ?_
     refine sy h47 rfl rfl rfl gc38 (ex_geq (h47.ev rfl) (h47.ev rfl)) rfl rfl fun a48 h48 => ?_
     refine sv h48 (ex_pick_f (h48.ev rfl) gc38 (h48.ev rfl)) fun a49 h49 => ?_
     exact st_nil ⟨h49.mid (m := [(_, _), (_, _), (_, _), (_, _)]) rfl, S43⟩
    case ht =>
     intro gc38
     refine no h44 rfl rfl rfl gc38 rfl rfl fun a50 h50 => ?_
     refine no h50 rfl rfl rfl gc38 rfl rfl fun a51 h51 => ?_
     refine no h51 rfl rfl rfl gc38 rfl rfl fun a52 h52 => ?_
     refine no h52 rfl rfl rfl gc38 rfl rfl fun a53 h53 => ?_
     refine sv h53 (ex_pick_t (h53.ev rfl) gc38 (h53.ev rfl)) fun a54 h54 => ?_
     exact st_nil ⟨h54.mid (m := [(_, _), (_, _), (_, _), (_, _)]) rfl, S43⟩
    case h =>
     rintro a55 X55 ⟨h55, S55⟩
     refine st_nil (go_then ?_)
     refine st_if (h55.ev rfl) (fun hc1 => ?_) (fun hc1 => ?_)
     ·
      refine st_seq (st_reg ?_)
      refine ma h55 rfl rfl fun a56 h56 => ?_
      refine st_nil (go_then (wp_ret (ret_then ?_)))
      refine fin1 h56 rfl rfl ?_
      exact ⟨rfl, S55.below⟩
     ·
      simp only [Bool.or_eq_false_iff] at hc1
      obtain ⟨⟨⟨⟨k1, k2⟩, k3⟩, k4⟩, k5⟩ := hc1
      have hfw : fewB r = true := by simpa using k1
      have hlen := few_le hfw
      have hx6 : ∀ x ∈ r.rs, I6 x.l := fun x hx => (hI.rs x hx).1
      have hz : (chkR r).2 = 0 := by simpa using k2
      have hxl : xs.length ≤ 6 := by have := of_decide_eq_false k3; omega
      have hyl : ys.length ≤ 6 := by have := of_decide_eq_false k4; omega
      have hsq : r.r.s < 60000 := by have := of_decide_eq_false k5; omega
      have hok := ok_iff.1 hz
      have hpg := hok.h.pg
      have e1 : clE r = cloE r := by unfold clE; rw [if_pos hz]
      refine wp_skip (go_then (st_seq (st_reg ?_)))
      refine sv (v := ringV r A c) h55 (ex_loads (by kernel_rfl) (by kernel_rfl) (h55.ev rfl) (S55.cellsAll (i := 2) rfl)) fun a57 h57 => ?_
      refine sl_ownt h57 (wn rfl) (ex_call (fun _ _ => by kernel_rfl) (h57.evs rfl) rfl) rfl rfl S55 (rCopy_any r A c _ (S55.rd0 hr) hlen) (Nat.le_refl _) fun A46 c46 a58 X58 h58 S58 => ?_
      refine sl_ownt h58 (wn rfl) (ex_call (fun _ _ => by kernel_rfl) (h58.evs rfl) rfl) rfl rfl S58 (clo2_any r A46 c46 _ (S58.rdOf (i := 0) rfl) hlen hx6) (Nat.le_refl _) fun A47 c47 a59 X59 h59 S59 => ?_
      refine mv h59 rfl rfl fun a60 h60 => ?_
      refine vx h60 rfl rfl rfl fun a61 h61 => ?_
      refine vx h61 rfl rfl rfl fun a62 h62 => ?_
      refine na (.agg #[.int .i64 0, .int .i64 0, .int .i64 0, .int .i64 0, .int .i64 0, .int .i64 0, .int .i64 0, .slice none 0 0, .int .i64 0]) h62 rfl S59 fun b7 a63 X63 gb7 h63 S63 => ?_
      refine sl_store0 h63 (wn rfl) ⟨rfl, rfl⟩ (h63.ev rfl) (h63.ev rfl) rfl (by kernel_rfl) S63 (i := 0) rfl rfl rfl fun X64 S64 => ?_
      refine ma h63 rfl rfl fun a65 h65 => ?_
      refine st_nil (go_then (st_seq (st_seq (st_reg ?_))))
      refine mv h65 rfl rfl fun a66 h66 => ?_
      refine sv h66 (ex_neq (h66.ev rfl) (h66.ev rfl)) fun a67 h67 => ?_
      refine st_nil (go_then ?_)
      refine st_if (h67.ev rfl) (fun hc2 => ?_) (fun hc2 => ?_)
      ·
       have hne : cloE r ≠ 0 := by rw [← e1]; simpa using hc2
       refine st_seq (st_reg ?_)
       refine mv h67 rfl rfl fun a68 h68 => ?_
       refine sv h68 (ex_eql (h68.ev rfl) (h68.ev rfl)) fun a69 h69 => ?_
       refine ma h69 rfl rfl fun a70 h70 => ?_
       refine st_nil (go_then (wp_ret (ret_then ?_)))
       refine fin1 h70 rfl rfl ?_
       refine ⟨?_, S64.below⟩
       rw [e1, clo_full hne]; rfl
      ·
       have hcz : cloE r = 0 := by rw [← e1]; simpa using hc2
       have e2 : clX r = cloV r := by unfold clX cloR; rw [if_pos hz, if_pos hcz]
       rw [e2] at S64
       obtain ⟨N1, hN1⟩ : ∃ N, N = cloV r := ⟨_, rfl⟩
       rw [← hN1] at S64
       have hok1 : OkP N1 := by rw [hN1]; exact clo_ok hok hcz
       have hnx1 : N1.nx % 448 = 0 := by rw [hN1]; show nxtR r.nx % 448 = 0; unfold nxtR; omega
       have hpg1 : N1.pg = r.pg := by rw [hN1]; rfl
       have hr1 : N1.r = r.r := by rw [hN1]; rfl
       have hP : N1.pg = (N1.pg.toNat : Int) := by omega
       have hLD := LD.ini hok1 hP hnx1
       obtain ⟨hb1, hb2⟩ := rbs_len hok1
       have hlen1 : N1.rs.length ≤ 1000 := by have := hok1.h.len; omega
       have hg3 : ((((bs (rbS N1)).size : Nat) : Int) != r.pg * 512) = false := by rw [bs_size, hb1, hb2, hpg1]; simp
       refine wp_skip (go_then (st_seq (st_reg ?_)))
       refine sv (v := ringV N1 A47 c47) h67 (ex_loads (by kernel_rfl) (by kernel_rfl) (h67.ev rfl) (S64.cellsAll (i := 0) rfl)) fun a71 h71 => ?_
       refine sl_ownt h71 (wn rfl) (ex_call (fun _ _ => by kernel_rfl) (h71.evs rfl) rfl) rfl rfl S64 (rCopy_any N1 A47 c47 _ (S64.rdOf (i := 1) rfl) hlen1) (Nat.le_refl _) fun A56 c56 a72 X72 h72 S72 => ?_
       refine sl_bel h72 (wn rfl) (ex_call (fun _ _ => by kernel_rfl) (h72.evs rfl) rfl) rfl rfl S72 (rbs_any N1 A56 c56 _ (S72.rdOf (i := 0) rfl) hlen1 (ok_i6 (ok_iff.2 hok1))) fun a73 X73 h73 S73 => ?_
       refine mv h73 rfl rfl fun a74 h74 => ?_
       refine vx h74 rfl rfl rfl fun a75 h75 => ?_
       refine vx h75 rfl rfl rfl fun a76 h76 => ?_
       refine ma h76 rfl rfl fun a77 h77 => ?_
       refine ma h77 rfl rfl fun a78 h78 => ?_
       refine st_nil (go_then (st_seq (st_seq (st_reg ?_))))
       refine mv h78 rfl rfl fun a79 h79 => ?_
       refine sv h79 (ex_neq (h79.ev rfl) (h79.ev rfl)) fun a80 h80 => ?_
       refine mv h80 rfl rfl fun a81 h81 => ?_
       refine sl_val h81 (wanted_yes h81 _ rfl rfl rfl ((by rw [ok_iff.2 hok1]; rfl))) (ex_move (h81.ev rfl)) rfl rfl fun a82 h82 => ?_
       refine sl_val h82 (wanted_yes h82 _ rfl rfl rfl ((by rw [ok_iff.2 hok1]; rfl))) (ex_slen Tryz.underlying9 (h82.ev rfl)) rfl rfl fun a83 h83 => ?_
       refine sl_val h83 (wanted_yes h83 _ rfl rfl rfl ((by rw [ok_iff.2 hok1]; rfl))) (ex_field (off := 0) (j := 0) (by kernel_rfl) (h83.ev rfl) rfl) rfl rfl fun a84 h84 => ?_
       refine sl_val h84 (wanted_yes h84 _ rfl rfl rfl ((by rw [ok_iff.2 hok1]; rfl))) (ex_load (by kernel_rfl) (h84.ev rfl) (S73.cell (i := 6) rfl rfl)) rfl rfl fun a85 h85 => ?_
       refine sl_val h85 (wanted_yes h85 _ rfl rfl rfl ((by rw [ok_iff.2 hok1]; rfl))) (ex_mul (h85.ev rfl) (h85.ev rfl) (by omega)) rfl rfl fun a86 h86 => ?_
       refine sl_val h86 (wanted_yes h86 _ rfl rfl rfl ((by rw [ok_iff.2 hok1]; rfl))) (ex_neq (h86.ev rfl) (h86.ev rfl)) rfl rfl fun a87 h87 => ?_
       refine sv h87 (ex_pick_f (h87.ev rfl) ((by rw [ok_iff.2 hok1]; rfl)) (h87.ev rfl)) fun a88 h88 => ?_
       refine st_nil (go_then ?_)
       refine st_if_f (h88.ev rfl) (hg3) ?_
       refine wp_skip (go_then (st_seq (st_reg ?_)))
       refine sv (v := .string (bs (rbL N1).flatten)) h88 (as_val (v' := .string (bs (rbL N1).flatten)) (congrArg (fun l => Value.string (bs l)) hb1) (ex_move (h88.ev rfl))) fun a89 h89 => ?_
       refine sv (v := ringV N1 A47 c47) h89 (ex_loads (by kernel_rfl) (by kernel_rfl) (h89.ev rfl) (S73.cellsAll (i := 1) rfl)) fun a90 h90 => ?_
       refine sv (v := failV xs.length Ax cx fl.length Af cf) h90 (ex_loads (by kernel_rfl) (by kernel_rfl) (h90.ev rfl) (S73.cellsAll (i := 5) rfl)) fun a91 h91 => ?_
       refine sl_ownx h91 (wn rfl) (ex_call (fun _ _ => by kernel_rfl) (h91.evs rfl) rfl) rfl rfl S73 (fails_any hLD A47 c47 xs Ax cx fl Af cf _ (S73.rdOf (i := 2) rfl) (S73.rd0 hx) (S73.rd0 hf) hxl) (Nat.le_refl _) fun p74 a92 X92 h92 hF74 S92 => ?_
       refine mv h92 rfl rfl fun a93 h93 => ?_
       refine vx h93 rfl rfl rfl fun a94 h94 => ?_
       refine vx h94 rfl rfl rfl fun a95 h95 => ?_
       refine vx h95 rfl rfl rfl fun a96 h96 => ?_
       refine vx h96 rfl rfl rfl fun a97 h97 => ?_
       refine ma h97 rfl rfl fun a98 h98 => ?_
       refine sl_store0 h98 (wn rfl) ⟨rfl, rfl⟩ (h98.ev rfl) (h98.ev rfl) rfl (by kernel_rfl) S92 (i := 2) rfl rfl rfl fun X99 S99 => ?_
       refine ma h98 rfl rfl fun a100 h100 => ?_
       refine ma h100 rfl rfl fun a101 h101 => ?_
       refine st_nil (go_then (st_seq (st_seq (st_reg ?_))))
       refine mv h101 rfl rfl fun a102 h102 => ?_
       refine sv h102 (ex_not (h102.ev rfl)) fun a103 h103 => ?_
       refine mv h103 rfl rfl fun a104 h104 => ?_
       refine sl_val h104 (wanted_yes h104 _ rfl rfl rfl (rfl)) (ex_move (h104.ev rfl)) rfl rfl fun a105 h105 => ?_
       refine sl_val h105 (wanted_yes h105 _ rfl rfl rfl (rfl)) (ex_not (h105.ev rfl)) rfl rfl fun a106 h106 => ?_
       refine sv h106 (ex_pick_f (h106.ev rfl) (rfl) (h106.ev rfl)) fun a107 h107 => ?_
       refine st_nil (go_then ?_)
       refine st_if (h107.ev rfl) (fun hc4 => ?_) (fun hc4 => ?_)
       ·
        refine st_seq (st_reg ?_)
        refine mv h107 rfl rfl fun a108 h108 => ?_
        refine ma h108 rfl rfl fun a109 h109 => ?_
        refine st_nil (go_then (wp_ret (ret_then ?_)))
        refine fin1 h109 rfl rfl ?_
        exact ⟨rfl, S99.below⟩
       ·
        have hpb : p74.b = true := by simpa using hc4
        have hFP := hF74 hpb
        simp only [hpb, if_true] at S99
        obtain ⟨hR1, hR2, hR4, hR3⟩ := hFP.rr
        have hlen2 : p74.r.rs.length ≤ 1000 := by have := hR3.h.len; omega
        have hx2 := ok_i6 (ok_iff.2 hR3)
        have e3 : rs2E p74.r p74.r.r.c p74.r.r.o = rsaE p74.r p74.r.r.c p74.r.r.o := by rw [rs2E_eq, if_pos (ok_iff.2 hR3)]
        refine wp_skip (go_then (st_seq (st_reg ?_)))
        refine sv (v := ringV p74.r p74.A p74.c) h107 (ex_loads (by kernel_rfl) (by kernel_rfl) (h107.ev rfl) (S99.cellsAll (i := 2) rfl)) fun a110 h110 => ?_
        refine vf h110 1 1 rfl rfl rfl fun a111 h111 => ?_
        refine vf h111 1 2 rfl rfl rfl fun a112 h112 => ?_
        refine vl h112 S99 2 rfl rfl rfl rfl fun a113 h113 => ?_
        refine vf h113 1 1 rfl rfl rfl fun a114 h114 => ?_
        refine vf h114 2 3 rfl rfl rfl fun a115 h115 => ?_
        refine vl h115 S99 2 rfl rfl rfl rfl fun a116 h116 => ?_
        refine sl_ownt h116 (wn rfl) (ex_call (fun _ _ => by kernel_rfl) (h116.evs rfl) rfl) rfl rfl S99 (rst2_any p74.r p74.A p74.c p74.r.r.c p74.r.r.o _ (S99.rdOf (i := 0) rfl) hlen2 hx2) (Nat.le_refl _) fun A94 c94 a117 X117 h117 S117 => ?_
        refine mv h117 rfl rfl fun a118 h118 => ?_
        refine vx h118 rfl rfl rfl fun a119 h119 => ?_
        refine vx h119 rfl rfl rfl fun a120 h120 => ?_
        refine sl_store0 h120 (wn rfl) ⟨rfl, rfl⟩ (h120.ev rfl) (h120.ev rfl) rfl (by kernel_rfl) S117 (i := 3) rfl rfl rfl fun X121 S121 => ?_
        refine ma h120 rfl rfl fun a122 h122 => ?_
        refine st_nil (go_then (st_seq (st_seq (st_reg ?_))))
        refine mv h122 rfl rfl fun a123 h123 => ?_
        refine sv h123 (ex_neq (h123.ev rfl) (h123.ev rfl)) fun a124 h124 => ?_
        refine st_nil (go_then ?_)
        refine st_if (h124.ev rfl) (fun hc5 => ?_) (fun hc5 => ?_)
        ·
         have hne : rsaE p74.r p74.r.r.c p74.r.r.o ≠ 0 := by rw [← e3]; simpa using hc5
         refine st_seq (st_reg ?_)
         refine mv h124 rfl rfl fun a125 h125 => ?_
         refine sv h125 (ex_eql (h125.ev rfl) (h125.ev rfl)) fun a126 h126 => ?_
         refine ma h126 rfl rfl fun a127 h127 => ?_
         refine st_nil (go_then (wp_ret (ret_then ?_)))
         refine fin1 h127 rfl rfl ?_
         refine ⟨?_, S121.below⟩
         rw [e3, rsa_full hR3 (by rw [hR1, hr1]; exact hsq) hne]; rfl
        ·
         have hrz : rsaE p74.r p74.r.r.c p74.r.r.o = 0 := by rw [← e3]; simpa using hc5
         have e5 : rsX p74.r p74.r.r.c p74.r.r.o = rsaV p74.r p74.r.r.c p74.r.r.o := by unfold rsX; rw [if_pos (by rw [e3]; exact hrz)]
         rw [e5] at S121
         obtain ⟨F2, hLD2⟩ := hLD.again hFP hrz
         have hok2 := ok_iff.1 (rsa_ok hR3 hrz).2
         have hpg2 : (rsaV p74.r p74.r.r.c p74.r.r.o).pg = p74.r.pg := rfl
         rw [← hpg2] at hLD2
         obtain ⟨N2, hN2⟩ : ∃ N, N = rsaV p74.r p74.r.r.c p74.r.r.o := ⟨_, rfl⟩
         rw [← hN2] at S121 hLD2 hok2 hpg2
         have hlen3 : N2.rs.length ≤ 1000 := by have := hok2.h.len; omega
         obtain ⟨I, hIn⟩ : ∃ I, I = (N2.r.s % 2).toNat := ⟨_, rfl⟩
         have hI2 : (I : Int) = N2.r.s % 2 := by omega
         have hI3 : I < 2 := by omega
         rw [← hIn] at hLD2
         have hsl : p74.s.length = (rbL N1).flatten.length := hR4
         have hrl := rsL_length N2.r N2.pg
         have hp1 : p74.s.length ≤ 1000000 := by omega
         have hp2 : 512 * I + (rsL N2.r N2.pg).length ≤ p74.s.length := by omega
         refine wp_skip (go_then (st_seq (st_reg ?_)))
         refine sv (v := ringV N2 A94 c94) h124 (ex_loads (by kernel_rfl) (by kernel_rfl) (h124.ev rfl) (S121.cellsAll (i := 3) rfl)) fun a128 h128 => ?_
         refine sl_ownt h128 (wn rfl) (ex_call (fun _ _ => by kernel_rfl) (h128.evs rfl) rfl) rfl rfl S121 (rCopy_any N2 A94 c94 _ (S121.rdOf (i := 0) rfl) hlen3) (Nat.le_refl _) fun A103 c103 a129 X129 h129 S129 => ?_
         refine sl_bel h129 (wn rfl) (ex_call (fun _ _ => by kernel_rfl) (h129.evs rfl) rfl) rfl rfl S129 (rwx_any N2 hok2 I hI2 A103 c103 _ (S129.rdOf (i := 0) rfl)) fun a130 X130 h130 S130 => ?_
         refine mv h130 rfl rfl fun a131 h131 => ?_
         refine vx h131 rfl rfl rfl fun a132 h132 => ?_
         refine vx h132 rfl rfl rfl fun a133 h133 => ?_
         refine na (.agg #[.int .i64 0, .string ⟨#[]⟩]) h133 rfl S130 fun b14 a134 X134 gb14 h134 S134 => ?_
         refine sl_store0 h134 (wn rfl) ⟨rfl, rfl⟩ (h134.ev rfl) (h134.ev rfl) rfl (by kernel_rfl) S134 (i := 0) rfl rfl rfl fun X135 S135 => ?_
         refine ma h134 rfl rfl fun a136 h136 => ?_
         refine st_nil (go_then (st_seq (st_seq (st_reg ?_))))
         refine mv h136 rfl rfl fun a137 h137 => ?_
         refine sv h137 (ex_neq (h137.ev rfl) (h137.ev rfl)) fun a138 h138 => ?_
         refine mv h138 rfl rfl fun a139 h139 => ?_
         refine sl_val h139 (wanted_yes h139 _ rfl rfl rfl (rfl)) (ex_move (h139.ev rfl)) rfl rfl fun a140 h140 => ?_
         refine sl_val (v := .agg (wrV (((8 * I : Nat) : Int), rsL N2.r N2.pg)).toArray) h140 (wanted_yes h140 _ rfl rfl rfl (rfl)) (ex_loads (by kernel_rfl) (by kernel_rfl) (h140.ev rfl) (S135.cellsAll (i := 0) rfl)) rfl rfl fun a141 h141 => ?_
         refine sl_bel h141 (wanted_yes h141 _ rfl rfl rfl (rfl)) (ex_call (fun _ _ => by kernel_rfl) (h141.evs rfl) rfl) rfl rfl S135 (onDisk_any p74.s (((8 * I : Nat) : Int), rsL N2.r N2.pg) _ (by show (0 : Int) ≤ ((8 * I : Nat) : Int) ∧ ((8 * I : Nat) : Int) ≤ 2000; omega) hrl (by show ((8 * I : Nat) : Int) * 64 + 512 ≤ _; omega)) fun a142 X142 h142 S142 => ?_
         refine sl_val h142 (wanted_yes h142 _ rfl rfl rfl (rfl)) (ex_not (h142.ev rfl)) rfl rfl fun a143 h143 => ?_
         refine sv h143 (ex_pick_f (h143.ev rfl) (rfl) (h143.ev rfl)) fun a144 h144 => ?_
         refine st_nil (go_then ?_)
         refine st_if_f (h144.ev rfl) (rfl) ?_
         refine wp_skip (go_then (st_seq (st_reg ?_)))
         refine mv h144 rfl rfl fun a145 h145 => ?_
         refine vf h145 0 0 rfl rfl rfl fun a146 h146 => ?_
         refine vl h146 S142 0 rfl rfl rfl rfl fun a147 h147 => ?_
         refine sv h147 (as_val (v' := .int .i64 ((512 * I : Nat) : Int)) (congrArg _ (by push_cast; omega)) (ex_mul (h147.ev rfl) (h147.ev rfl) (by omega))) fun a148 h148 => ?_
         refine vf h148 1 1 rfl rfl rfl fun a149 h149 => ?_
         refine vl h149 S142 0 rfl rfl rfl rfl fun a150 h150 => ?_
         refine sl_bel h150 (wn rfl) (ex_call (fun _ _ => by kernel_rfl) (h150.evs rfl) rfl) rfl rfl S142 (Patch_l p74.s (rsL N2.r N2.pg) (512 * I) _ hp1 hp2) fun a151 X151 h151 S151 => ?_
         refine ma h151 rfl rfl fun a152 h152 => ?_
         refine nsr ?_
         refine mv h152 rfl rfl fun a153 h153 => ?_
         refine sv (v := ringV N2 A94 c94) h153 (ex_loads (by kernel_rfl) (by kernel_rfl) (h153.ev rfl) (S151.cellsAll (i := 5) rfl)) fun a154 h154 => ?_
         refine sv (v := failV ys.length Ay cy gl.length Ag cg) h154 (ex_loads (by kernel_rfl) (by kernel_rfl) (h154.ev rfl) (S151.cellsAll (i := 8) rfl)) fun a155 h155 => ?_
         refine sl_ownx h155 (wn rfl) (ex_call (fun _ _ => by kernel_rfl) (h155.evs rfl) rfl) rfl rfl S151 (fails_any hLD2 A94 c94 ys Ay cy gl Ag cg _ (S151.rdOf (i := 2) rfl) (S151.rd0 hy) (S151.rd0 hg) hyl) (Nat.le_refl _) fun p126 a156 X156 h156 hF126 S156 => ?_
         refine mv h156 rfl rfl fun a157 h157 => ?_
         refine vx h157 rfl rfl rfl fun a158 h158 => ?_
         refine vx h158 rfl rfl rfl fun a159 h159 => ?_
         refine vx h159 rfl rfl rfl fun a160 h160 => ?_
         refine vx h160 rfl rfl rfl fun a161 h161 => ?_
         refine ma h161 rfl rfl fun a162 h162 => ?_
         refine nsr ?_
         refine mv h162 rfl rfl fun a163 h163 => ?_
         refine ma h163 rfl rfl fun a164 h164 => ?_
         refine st_nil (go_then (wp_ret ?_))
         refine fin1 h164 rfl rfl ?_
         exact ⟨rfl, S156.below⟩
end Go.Proofs.YtmlilplbdpjfcaaGreatDoor
