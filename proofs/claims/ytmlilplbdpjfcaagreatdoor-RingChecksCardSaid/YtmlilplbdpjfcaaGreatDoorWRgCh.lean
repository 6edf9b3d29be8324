/-
  RingChecks: the walk.
-/
import Derived.Test.YtmlilplbdpjfcaaGreatDoorRg29
import Derived.Test.YtmlilplbdpjfcaaGreatDoorRg25
namespace Go.Proofs.YtmlilplbdpjfcaaGreatDoor
set_option linter.unusedVariables false
set_option linter.unusedSimpArgs false
set_option maxRecDepth 4000
open Go.RowKit Go.Sort
def empR (n : Int) : RngP := if pgsE n = 0 then ⟨n, ⟨1, 0, 1⟩, rst0, [], 0⟩ else rng0
theorem empR_rs (n : Int) : (empR n).rs = [] := by unfold empR; split <;> rfl
theorem emp_any (n : Int) (w : World) : Calls Tryz.prog 25 #[.int .i64 n] w fun e w' => e = .returned (.tuple #[ringV (empR n) none 0, .int .i64 (pgsE n)]) ∧ Below w.heap.size w w' := EmptyRing_any n w
def rmsV (r : RngP) : Int × Int := if (chkR r).2 = 0 then roomsP r else (0, 0)
theorem rms_any (r : RngP) (A : Option Addr) (c : Nat) (w : World) (hr : Rd w w.heap.size A (recsV r.rs)) (hlen : r.rs.length ≤ 1000) (hx : ∀ x ∈ r.rs, I6 x.l) :
    Calls Tryz.prog 26 #[ringV r A c] w fun e w' => e = .returned (.tuple #[.int .i64 (rmsV r).1, .int .i64 (rmsV r).2, .int .i64 (chkR r).2]) ∧ Below w.heap.size w w' := by
  have h := RoomsOf_any r A c w hr hlen hx
  by_cases h0 : (chkR r).2 = 0
  · rw [if_pos h0] at h; unfold rmsV; rw [if_pos h0, h0]; exact h
  · rw [if_neg h0] at h; unfold rmsV; rw [if_neg h0]; exact h
theorem RingChecks_any (r : RngP) (hI : RngI r) (A : Option Addr) (c : Nat) (pg : Int) (hpg : (Lit.int .i64 pg).wf = true) (w : World) (hr : Rd w w.heap.size A (recsV r.rs)) :
    Calls Tryz.prog 5 #[ringV r A c, .int .i64 pg] w fun e w' => e = .returned (.bool true) ∧ Below w.heap.size w w' := by
  refine st_enter (N := 112) Tryz.func5 rfl rfl rfl (fun a0 h0 => ?_)
  have S0 := St.init w
  refine st_seq ?_
  refine st_reg ?_
  refine sl_new h0 (wanted_none _ _ rfl) (f := fun b => .pointer (some ⟨b, 0, none⟩)) (ex_box (h0.ev rfl)) rfl rfl S0 fun b2 a1 X1 gb2 h1 S1 => ?_
  refine sl_val h1 (wanted_none _ _ rfl) (ex_assign (h1.ev rfl)) rfl rfl fun a2 h2 => ?_
  refine st_nil ?_
  refine go_then ?_
  refine st_seq ?_
  refine st_seq ?_
  refine st_reg ?_
  refine sl_bel h2 (wanted_none _ _ rfl) (ex_call (fun _ _ => by kernel_rfl) (h2.evs rfl) rfl) rfl rfl S1 (awake_any _) fun a3 X3 h3 S3 => ?_
  refine sl_val h3 (wanted_none _ _ rfl) (ex_not (h3.ev rfl)) rfl rfl fun a4 h4 => ?_
  refine st_nil ?_
  refine go_then ?_
  refine st_if_f (h4.ev rfl) (rfl) ?_
  refine wp_skip ?_
  refine go_then ?_
  refine st_seq ?_
  refine st_seq ?_
  refine st_reg ?_
  refine sl_val (v := ringV r A c) h4 (wanted_none _ _ rfl) (ex_loads (by kernel_rfl) (by kernel_rfl) (h4.ev rfl) (S3.cellsAll (i := 0) rfl)) rfl rfl fun a5 h5 => ?_
  refine sl_bel h5 (wanted_none _ _ rfl) (ex_call (fun _ _ => by kernel_rfl) (h5.evs rfl) rfl) rfl rfl S3 (Few_any r A c _ (S3.rd0 hr)) fun a6 X6 h6 S6 => ?_
  refine sl_val h6 (wanted_none _ _ rfl) (ex_not (h6.ev rfl)) rfl rfl fun a7 h7 => ?_
  refine st_nil ?_
  refine go_then ?_
  refine st_if (h7.ev rfl) (fun hc1 => ?_) (fun hc1 => ?_)
  · skip
    refine st_seq ?_
    refine st_reg ?_
    refine sl_val h7 (wanted_none _ _ rfl) (ex_assign (h7.ev rfl)) rfl rfl fun a8 h8 => ?_
    refine st_nil ?_
    refine go_then ?_
    refine wp_ret ?_
    refine ret_then ?_
    refine fin1 h8 rfl rfl ?_
    exact ⟨rfl, S6.below⟩
  · skip
    have hf : fewB r = true := by simpa using hc1
    have hlen := few_le hf
    have hx : ∀ x ∈ r.rs, I6 x.l := fun x hx => (hI.rs x hx).1
    refine wp_skip ?_
    refine go_then ?_
    refine st_seq ?_
    refine st_reg ?_
    refine sl_val (v := ringV r A c) h7 (wanted_none _ _ rfl) (ex_loads (by kernel_rfl) (by kernel_rfl) (h7.ev rfl) (S6.cellsAll (i := 0) rfl)) rfl rfl fun a9 h9 => ?_
    refine sl_ownt h9 (wanted_none _ _ rfl) (ex_call (fun _ _ => by kernel_rfl) (h9.evs rfl) rfl) rfl rfl S6 (rCopy_any r A c _ (S6.rd0 hr) hlen) (Nat.le_refl _) fun A24 c24 a10 X10 h10 S10 => ?_
    refine sl_bel h10 (wanted_none _ _ rfl) (ex_call (fun _ _ => by kernel_rfl) (h10.evs rfl) rfl) rfl rfl S10 (CheckRing_any r A24 c24 _ (S10.rdOf (i := 0) rfl) hlen hx) fun a11 X11 h11 S11 => ?_
    refine sl_val h11 (wanted_none _ _ rfl) (ex_move (h11.ev rfl)) rfl rfl fun a12 h12 => ?_
    refine sl_val h12 (wanted_none _ _ rfl) (ex_extract (h12.ev rfl) rfl) rfl rfl fun a13 h13 => ?_
    refine sl_val h13 (wanted_none _ _ rfl) (ex_extract (h13.ev rfl) rfl) rfl rfl fun a14 h14 => ?_
    refine sl_val h14 (wanted_none _ _ rfl) (ex_assign (h14.ev rfl)) rfl rfl fun a15 h15 => ?_
    refine sl_val h15 (wanted_none _ _ rfl) (ex_assign (h15.ev rfl)) rfl rfl fun a16 h16 => ?_
    refine st_nil ?_
    refine go_then ?_
    refine st_seq ?_
    refine st_reg ?_
    refine sl_val h16 (wanted_none _ _ rfl) (ex_move (h16.ev rfl)) rfl rfl fun a17 h17 => ?_
    refine sl_bel h17 (wanted_none _ _ rfl) (ex_call (fun _ _ => by kernel_rfl) (h17.evs rfl) rfl) rfl rfl S11 (emp_any pg _) fun a18 X18 h18 S18 => ?_
    refine sl_val h18 (wanted_none _ _ rfl) (ex_move (h18.ev rfl)) rfl rfl fun a19 h19 => ?_
    refine sl_val h19 (wanted_none _ _ rfl) (ex_extract (h19.ev rfl) rfl) rfl rfl fun a20 h20 => ?_
    refine sl_val h20 (wanted_none _ _ rfl) (ex_extract (h20.ev rfl) rfl) rfl rfl fun a21 h21 => ?_
    refine sl_new h21 (wanted_none _ _ rfl) (f := fun b => .pointer (some ⟨b, 0, none⟩)) (ex_alloc (z := .agg #[.int .i64 0, .int .i64 0, .int .i64 0, .int .i64 0, .int .i64 0, .int .i64 0, .int .i64 0, .slice none 0 0, .int .i64 0]) (by kernel_rfl)) rfl rfl S18 fun b7 a22 X22 gb7 h22 S22 => ?_
    refine sl_store0 h22 (wanted_none _ _ rfl) ⟨rfl, rfl⟩ (h22.ev rfl) (h22.ev rfl) rfl (by kernel_rfl) S22 (i := 0) rfl rfl rfl fun X23 S23 => ?_
    refine sl_val h22 (wanted_none _ _ rfl) (ex_assign (h22.ev rfl)) rfl rfl fun a24 h24 => ?_
    refine st_nil ?_
    refine go_then ?_
    refine st_seq ?_
    refine st_reg ?_
    refine sl_val (v := ringV r A c) h24 (wanted_none _ _ rfl) (ex_loads (by kernel_rfl) (by kernel_rfl) (h24.ev rfl) (S23.cellsAll (i := 2) rfl)) rfl rfl fun a25 h25 => ?_
    refine sl_ownt h25 (wanted_none _ _ rfl) (ex_call (fun _ _ => by kernel_rfl) (h25.evs rfl) rfl) rfl rfl S23 (rCopy_any r A c _ (S23.rd0 hr) hlen) (Nat.le_refl _) fun A35 c35 a26 X26 h26 S26 => ?_
    refine sl_bel h26 (wanted_none _ _ rfl) (ex_call (fun _ _ => by kernel_rfl) (h26.evs rfl) rfl) rfl rfl S26 (rms_any r A35 c35 _ (S26.rdOf (i := 0) rfl) hlen hx) fun a27 X27 h27 S27 => ?_
    refine sl_val h27 (wanted_none _ _ rfl) (ex_move (h27.ev rfl)) rfl rfl fun a28 h28 => ?_
    refine sl_val h28 (wanted_none _ _ rfl) (ex_extract (h28.ev rfl) rfl) rfl rfl fun a29 h29 => ?_
    refine sl_val h29 (wanted_none _ _ rfl) (ex_extract (h29.ev rfl) rfl) rfl rfl fun a30 h30 => ?_
    refine sl_val h30 (wanted_none _ _ rfl) (ex_extract (h30.ev rfl) rfl) rfl rfl fun a31 h31 => ?_
    refine sl_val h31 (wanted_none _ _ rfl) (ex_assign (h31.ev rfl)) rfl rfl fun a32 h32 => ?_
    refine sl_val h32 (wanted_none _ _ rfl) (ex_assign (h32.ev rfl)) rfl rfl fun a33 h33 => ?_
    refine sl_val h33 (wanted_none _ _ rfl) (ex_assign (h33.ev rfl)) rfl rfl fun a34 h34 => ?_
    refine st_nil ?_
    refine go_then ?_
    refine st_seq ?_
    refine st_seq ?_
    refine st_reg ?_
    refine sl_val h34 (wanted_none _ _ rfl) (ex_move (h34.ev rfl)) rfl rfl fun a35 h35 => ?_
    refine sl_pure h35 (wanted_none _ _ rfl) (ex_call (fun _ _ => by kernel_rfl) (h35.evs rfl) rfl) rfl rfl (rPagesErr_any _ _) fun a36 h36 => ?_
    refine sl_val h36 (wanted_none _ _ rfl) (ex_assign (h36.ev rfl)) rfl rfl fun a37 h37 => ?_
    refine st_nil ?_
    refine go_then ?_
    refine st_seq ?_
    apply dr_flow h37 [false, false, false, false, false, false, false, false, false, false, false, false, false, false, false, false, false, false, false, false, false, false, false, false, false, false] _ (by kernel_rfl)
    case h =>
      refine sq_val h37 (wanted_none _ _ rfl) rfl rfl (fun X hX => (ex_move (h37.ev rfl))) fun a38 h38 => ?_
      refine sq_val h38 (wanted_none _ _ rfl) rfl rfl (fun X hX => (ex_neq (h38.ev rfl) (h38.ev rfl))) fun a39 h39 => ?_
      refine sq_val h39 (wanted_none _ _ rfl) rfl rfl (fun X hX => (ex_move (h39.ev rfl))) fun a40 h40 => ?_
      apply sq_and h40 44 rfl 9 53
      case ht =>
        intro gc44
        refine sq_val h40 (wanted_yes h40 _ rfl rfl rfl gc44) rfl rfl (fun X hX => (ex_move (h40.ev rfl))) fun a41 h41 => ?_
        refine sq_val h41 (wanted_yes h41 _ rfl rfl rfl gc44) rfl rfl (fun X hX => (ex_move (h41.ev rfl))) fun a42 h42 => ?_
        refine sq_val h42 (wanted_yes h42 _ rfl rfl rfl gc44) rfl rfl (fun X hX => (ex_neq (h42.ev rfl) (h42.ev rfl))) fun a43 h43 => ?_
        refine sq_val h43 (wanted_yes h43 _ rfl rfl rfl gc44) rfl rfl (fun X hX => (ex_move (h43.ev rfl))) fun a44 h44 => ?_
        apply sq_or h44 48 rfl 4 52
        case hf =>
          intro gc48
          refine sq_val (v := ringV (empR pg) none 0) h44 (wanted_yes h44 _ rfl rfl rfl gc48) rfl rfl (fun X hX => (ex_loads (by kernel_rfl) (by kernel_rfl) (h44.ev rfl) ((S27.grow hX).cellsAll (i := 1) rfl))) fun a45 h45 => ?_
          refine sq_bel h45 (wanted_yes h45 _ rfl rfl rfl gc48) rfl rfl (fun X => (ex_call (fun _ _ => by kernel_rfl) (h45.evs rfl) rfl)) (fun X hX => none_any (empR pg) none 0 _ (by rw [empR_rs]; exact Rd.nil _ _ _) (by rw [empR_rs]; decide)) fun a46 h46 => ?_
          refine sq_val h46 (wanted_yes h46 _ rfl rfl rfl gc48) rfl rfl (fun X hX => (ex_not (h46.ev rfl))) fun a47 h47 => ?_
          refine sq_val h47 (wanted_yes h47 _ rfl rfl rfl gc44) rfl rfl (fun X hX => (ex_pick_f (h47.ev rfl) gc48 (h47.ev rfl))) fun a48 h48 => ?_
          exact sq_nil (h48.mid (m := [(_, _), (_, _), (_, _)]) rfl)
        case ht =>
          intro gc48
          refine sq_no h44 (wanted_no h44 _ rfl rfl rfl gc48) rfl rfl fun a49 h49 => ?_
          refine sq_no h49 (wanted_no h49 _ rfl rfl rfl gc48) rfl rfl fun a50 h50 => ?_
          refine sq_no h50 (wanted_no h50 _ rfl rfl rfl gc48) rfl rfl fun a51 h51 => ?_
          refine sq_val h51 (wanted_yes h51 _ rfl rfl rfl gc44) rfl rfl (fun X hX => (ex_pick_t (h51.ev rfl) gc48 (h51.ev rfl))) fun a52 h52 => ?_
          exact sq_nil (h52.mid (m := [(_, _), (_, _), (_, _)]) rfl)
        case h =>
          intro a53 h53
          refine sq_val h53 (wanted_none _ _ rfl) rfl rfl (fun X hX => (ex_pick_t (h53.ev rfl) gc44 (h53.ev rfl))) fun a54 h54 => ?_
          exact sq_nil (h54.mid (m := [(_, _), (_, _), (_, _), (_, _), (_, _)]) rfl)
      case hf =>
        intro gc44
        refine sq_no h40 (wanted_no h40 _ rfl rfl rfl gc44) rfl rfl fun a55 h55 => ?_
        refine sq_no h55 (wanted_no h55 _ rfl rfl rfl gc44) rfl rfl fun a56 h56 => ?_
        refine sq_no h56 (wanted_no h56 _ rfl rfl rfl gc44) rfl rfl fun a57 h57 => ?_
        refine sq_no h57 (wanted_no h57 _ rfl rfl rfl gc44) rfl rfl fun a58 h58 => ?_
        refine sq_no h58 (wanted_not h58 _ rfl rfl rfl) rfl rfl fun a59 h59 => ?_
        refine sq_no h59 (wanted_not h59 _ rfl rfl rfl) rfl rfl fun a60 h60 => ?_
        refine sq_no h60 (wanted_not h60 _ rfl rfl rfl) rfl rfl fun a61 h61 => ?_
        refine sq_no h61 (wanted_no h61 _ rfl rfl rfl gc44) rfl rfl fun a62 h62 => ?_
        refine sq_val h62 (wanted_none _ _ rfl) rfl rfl (fun X hX => (ex_pick_f (h62.ev rfl) gc44 (h62.ev rfl))) fun a63 h63 => ?_
        exact sq_nil (h63.mid (m := [(_, _), (_, _), (_, _), (_, _), (_, _), (_, _), (_, _), (_, _)]) rfl)
      case h =>
        intro a64 h64
        refine sq_val h64 (wanted_none _ _ rfl) rfl rfl (fun X hX => (ex_move (h64.ev rfl))) fun a65 h65 => ?_
        apply sq_grpF h65 54 rfl 13 67
        case ht =>
          intro gc54
          refine sq_no h65 (wanted_no h65 _ rfl rfl rfl gc54) rfl rfl fun a66 h66 => ?_
          refine sq_no h66 (wanted_no h66 _ rfl rfl rfl gc54) rfl rfl fun a67 h67 => ?_
          refine sq_no h67 (wanted_no h67 _ rfl rfl rfl gc54) rfl rfl fun a68 h68 => ?_
          refine sq_no h68 (wanted_not h68 _ rfl rfl rfl) rfl rfl fun a69 h69 => ?_
          refine sq_no h69 (wanted_not h69 _ rfl rfl rfl) rfl rfl fun a70 h70 => ?_
          refine sq_no h70 (wanted_not h70 _ rfl rfl rfl) rfl rfl fun a71 h71 => ?_
          refine sq_no h71 (wanted_not h71 _ rfl rfl rfl) rfl rfl fun a72 h72 => ?_
          refine sq_no h72 (wanted_not h72 _ rfl rfl rfl) rfl rfl fun a73 h73 => ?_
          refine sq_no h73 (wanted_not h73 _ rfl rfl rfl) rfl rfl fun a74 h74 => ?_
          refine sq_no h74 (wanted_not h74 _ rfl rfl rfl) rfl rfl fun a75 h75 => ?_
          refine sq_no h75 (wanted_not h75 _ rfl rfl rfl) rfl rfl fun a76 h76 => ?_
          refine sq_no h76 (wanted_not h76 _ rfl rfl rfl) rfl rfl fun a77 h77 => ?_
          refine sq_no h77 (wanted_no h77 _ rfl rfl rfl gc54) rfl rfl fun a78 h78 => ?_
          exact sq_nil ⟨_, h78.mid (m := [(_, _), (_, _), (_, _), (_, _), (_, _), (_, _), (_, _), (_, _), (_, _), (_, _), (_, _), (_, _)]) rfl⟩
        case hf =>
          intro gc54
          refine sq_val h65 (wanted_yes h65 _ rfl rfl rfl gc54) rfl rfl (fun X hX => (ex_move (h65.ev rfl))) fun a79 h79 => ?_
          refine sq_val h79 (wanted_yes h79 _ rfl rfl rfl gc54) rfl rfl (fun X hX => (ex_eql (h79.ev rfl) (h79.ev rfl))) fun a80 h80 => ?_
          refine sq_val h80 (wanted_yes h80 _ rfl rfl rfl gc54) rfl rfl (fun X hX => (ex_move (h80.ev rfl))) fun a81 h81 => ?_
          apply sq_and h81 57 rfl 10 67
          case ht =>
            intro gc57
            refine sq_val h81 (wanted_yes h81 _ rfl rfl rfl gc57) rfl rfl (fun X hX => (ex_move (h81.ev rfl))) fun a82 h82 => ?_
            refine sq_val h82 (wanted_yes h82 _ rfl rfl rfl gc57) rfl rfl (fun X hX => (ex_neq (h82.ev rfl) (h82.ev rfl))) fun a83 h83 => ?_
            refine sq_val h83 (wanted_yes h83 _ rfl rfl rfl gc57) rfl rfl (fun X hX => (ex_move (h83.ev rfl))) fun a84 h84 => ?_
            apply sq_or h84 60 rfl 6 66
            case hf =>
              intro gc60
              refine sq_val (v := ringV (empR pg) none 0) h84 (wanted_yes h84 _ rfl rfl rfl gc60) rfl rfl (fun X hX => (ex_loads (by kernel_rfl) (by kernel_rfl) (h84.ev rfl) ((S27.grow hX).cellsAll (i := 1) rfl))) fun a85 h85 => ?_
              refine sq_val h85 (wanted_yes h85 _ rfl rfl rfl gc60) rfl rfl (fun X hX => (ex_move (h85.ev rfl))) fun a86 h86 => ?_
              refine sq_bel h86 (wanted_yes h86 _ rfl rfl rfl gc60) rfl rfl (fun X => (ex_call (fun _ _ => by kernel_rfl) (h86.evs rfl) rfl)) (fun X hX => rEmpty_any pg _) fun a87 h87 => ?_
              refine sq_bel h87 (wanted_yes h87 _ rfl rfl rfl gc60) rfl rfl (fun X => (ex_call (fun _ _ => by kernel_rfl) (h87.evs rfl) rfl)) (fun X hX => rSame_any (empR pg) ⟨pg, ⟨1, 0, 1⟩, rst0, [], 0⟩ none none 0 0 _ (by rw [empR_rs]; exact Rd.nil _ _ _) (Rd.nil _ _ _) (by rw [empR_rs]; decide) (Nat.zero_le _)) fun a88 h88 => ?_
              refine sq_val h88 (wanted_yes h88 _ rfl rfl rfl gc60) rfl rfl (fun X hX => (ex_not (h88.ev rfl))) fun a89 h89 => ?_
              refine sq_val h89 (wanted_yes h89 _ rfl rfl rfl gc57) rfl rfl (fun X hX => (ex_pick_f (h89.ev rfl) gc60 (h89.ev rfl))) fun a90 h90 => ?_
              exact sq_nil (h90.mid (m := [(_, _), (_, _), (_, _), (_, _), (_, _)]) rfl)
            case ht =>
              intro gc60
              refine sq_no h84 (wanted_no h84 _ rfl rfl rfl gc60) rfl rfl fun a91 h91 => ?_
              refine sq_no h91 (wanted_no h91 _ rfl rfl rfl gc60) rfl rfl fun a92 h92 => ?_
              refine sq_no h92 (wanted_no h92 _ rfl rfl rfl gc60) rfl rfl fun a93 h93 => ?_
              refine sq_no h93 (wanted_no h93 _ rfl rfl rfl gc60) rfl rfl fun a94 h94 => ?_
              refine sq_no h94 (wanted_no h94 _ rfl rfl rfl gc60) rfl rfl fun a95 h95 => ?_
              refine sq_val h95 (wanted_yes h95 _ rfl rfl rfl gc57) rfl rfl (fun X hX => (ex_pick_t (h95.ev rfl) gc60 (h95.ev rfl))) fun a96 h96 => ?_
              exact sq_nil (h96.mid (m := [(_, _), (_, _), (_, _), (_, _), (_, _)]) rfl)
            case h =>
              intro a97 h97
              refine sq_val h97 (wanted_yes h97 _ rfl rfl rfl gc54) rfl rfl (fun X hX => (ex_pick_t (h97.ev rfl) gc57 (h97.ev rfl))) fun a98 h98 => ?_
              exact sq_nil (h98.mid (m := [(_, _), (_, _), (_, _), (_, _)]) rfl)
          case hf =>
            intro gc57
            refine sq_no h81 (wanted_no h81 _ rfl rfl rfl gc57) rfl rfl fun a99 h99 => ?_
            refine sq_no h99 (wanted_no h99 _ rfl rfl rfl gc57) rfl rfl fun a100 h100 => ?_
            refine sq_no h100 (wanted_no h100 _ rfl rfl rfl gc57) rfl rfl fun a101 h101 => ?_
            refine sq_no h101 (wanted_not h101 _ rfl rfl rfl) rfl rfl fun a102 h102 => ?_
            refine sq_no h102 (wanted_not h102 _ rfl rfl rfl) rfl rfl fun a103 h103 => ?_
            refine sq_no h103 (wanted_not h103 _ rfl rfl rfl) rfl rfl fun a104 h104 => ?_
            refine sq_no h104 (wanted_not h104 _ rfl rfl rfl) rfl rfl fun a105 h105 => ?_
            refine sq_no h105 (wanted_not h105 _ rfl rfl rfl) rfl rfl fun a106 h106 => ?_
            refine sq_no h106 (wanted_no h106 _ rfl rfl rfl gc57) rfl rfl fun a107 h107 => ?_
            refine sq_val h107 (wanted_yes h107 _ rfl rfl rfl gc54) rfl rfl (fun X hX => (ex_pick_f (h107.ev rfl) gc57 (h107.ev rfl))) fun a108 h108 => ?_
            exact sq_nil (h108.mid (m := [(_, _), (_, _), (_, _), (_, _), (_, _), (_, _), (_, _), (_, _), (_, _)]) rfl)
          case h =>
            intro a109 h109
            exact sq_nil (h109.mid (m := [(_, _), (_, _), (_, _)]) rfl)
        case h =>
          intro v110 a110 hg67 h110
          refine sq_nil ?_
          refine nd_end fun X111 hX111 hΦ111 => ?_
          have S111 := S27.grow hX111
          refine sl_val h110 (wanted_none _ _ rfl) (ex_pick_or (h110.ev rfl) (h110.ev rfl) (h110.ev rfl) hg67) rfl rfl fun a112 h112 => ?_
          refine st_nil ?_
          refine go_then ?_
          refine st_if_f (h112.ev rfl) ((by
    by_cases hz : pgsE pg = 0
    · have e0 : empR pg = ⟨pg, ⟨1, 0, 1⟩, rst0, [], 0⟩ := by unfold empR; rw [if_pos hz]
      simp [hz, e0]
    · have e0 : empR pg = rng0 := by unfold empR; rw [if_neg hz]
      simp [hz, e0])) ?_
          refine wp_skip ?_
          refine go_then ?_
          refine st_seq ?_
          refine st_reg ?_
          refine sl_val (v := ringV r A c) h112 (wanted_none _ _ rfl) (ex_loads (by kernel_rfl) (by kernel_rfl) (h112.ev rfl) (S111.cellsAll (i := 3) rfl)) rfl rfl fun a113 h113 => ?_
          refine sl_bel h113 (wanted_none _ _ rfl) (ex_call (fun _ _ => by kernel_rfl) (h113.evs rfl) rfl) rfl rfl S111 (rCheckRing_any r A c _ (S111.rd0 hr) hlen hx) fun a114 X114 h114 S114 => ?_
          refine sl_val h114 (wanted_none _ _ rfl) (ex_move (h114.ev rfl)) rfl rfl fun a115 h115 => ?_
          refine sl_val h115 (wanted_none _ _ rfl) (ex_extract (h115.ev rfl) rfl) rfl rfl fun a116 h116 => ?_
          refine sl_val h116 (wanted_none _ _ rfl) (ex_extract (h116.ev rfl) rfl) rfl rfl fun a117 h117 => ?_
          refine sl_val h117 (wanted_none _ _ rfl) (ex_assign (h117.ev rfl)) rfl rfl fun a118 h118 => ?_
          refine sl_val h118 (wanted_none _ _ rfl) (ex_assign (h118.ev rfl)) rfl rfl fun a119 h119 => ?_
          refine st_nil ?_
          refine go_then ?_
          refine st_seq ?_
          refine st_seq ?_
          refine st_reg ?_
          refine sl_val h119 (wanted_none _ _ rfl) (ex_move (h119.ev rfl)) rfl rfl fun a120 h120 => ?_
          refine sl_val h120 (wanted_none _ _ rfl) (ex_move (h120.ev rfl)) rfl rfl fun a121 h121 => ?_
          refine sl_val h121 (wanted_none _ _ rfl) (ex_neq (h121.ev rfl) (h121.ev rfl)) rfl rfl fun a122 h122 => ?_
          refine sl_val h122 (wanted_none _ _ rfl) (ex_move (h122.ev rfl)) rfl rfl fun a123 h123 => ?_
          apply sl_or h123 S114 77 rfl 4 81
          case hf =>
            intro gc77
            refine sl_val h123 (wanted_yes h123 _ rfl rfl rfl gc77) (ex_move (h123.ev rfl)) rfl rfl fun a124 h124 => ?_
            refine sl_val h124 (wanted_yes h124 _ rfl rfl rfl gc77) (ex_move (h124.ev rfl)) rfl rfl fun a125 h125 => ?_
            refine sl_val h125 (wanted_yes h125 _ rfl rfl rfl gc77) (ex_neq (h125.ev rfl) (h125.ev rfl)) rfl rfl fun a126 h126 => ?_
            refine sl_val h126 (wanted_none _ _ rfl) (ex_pick_f (h126.ev rfl) gc77 (h126.ev rfl)) rfl rfl fun a127 h127 => ?_
            exact st_nil ⟨h127.mid (m := [(_, _), (_, _), (_, _)]) rfl, S114⟩
          case ht =>
            intro gc77
            refine sl_no h123 (wanted_no h123 _ rfl rfl rfl gc77) rfl rfl fun a128 h128 => ?_
            refine sl_no h128 (wanted_no h128 _ rfl rfl rfl gc77) rfl rfl fun a129 h129 => ?_
            refine sl_no h129 (wanted_no h129 _ rfl rfl rfl gc77) rfl rfl fun a130 h130 => ?_
            refine sl_val h130 (wanted_none _ _ rfl) (ex_pick_t (h130.ev rfl) gc77 (h130.ev rfl)) rfl rfl fun a131 h131 => ?_
            exact st_nil ⟨h131.mid (m := [(_, _), (_, _), (_, _)]) rfl, S114⟩
          case h =>
            rintro a132 X132 ⟨h132, S132⟩
            refine st_nil ?_
            refine go_then ?_
            refine st_if_f (h132.ev rfl) ((by simp)) ?_
            refine wp_skip ?_
            refine go_then ?_
            refine st_seq ?_
            refine st_seq ?_
            refine st_reg ?_
            refine sl_val h132 (wanted_none _ _ rfl) (ex_move (h132.ev rfl)) rfl rfl fun a133 h133 => ?_
            refine sl_val h133 (wanted_none _ _ rfl) (ex_neq (h133.ev rfl) (h133.ev rfl)) rfl rfl fun a134 h134 => ?_
            refine st_nil ?_
            refine go_then ?_
            refine st_if (h134.ev rfl) (fun hc4 => ?_) (fun hc4 => ?_)
            · skip
              have hne : ¬ (chkR r).2 = 0 := by simpa using hc4
              refine st_seq ?_
              refine st_reg ?_
              refine sl_val h134 (wanted_none _ _ rfl) (ex_move (h134.ev rfl)) rfl rfl fun a135 h135 => ?_
              refine sl_val h135 (wanted_none _ _ rfl) (ex_move (h135.ev rfl)) rfl rfl fun a136 h136 => ?_
              refine sl_val h136 (wanted_none _ _ rfl) (ex_eql (h136.ev rfl) (h136.ev rfl)) rfl rfl fun a137 h137 => ?_
              refine sl_val h137 (wanted_none _ _ rfl) (ex_move (h137.ev rfl)) rfl rfl fun a138 h138 => ?_
              apply sl_and h138 S132 87 rfl 3 90
              case ht =>
                intro gc87
                refine sl_val h138 (wanted_yes h138 _ rfl rfl rfl gc87) (ex_move (h138.ev rfl)) rfl rfl fun a139 h139 => ?_
                refine sl_val h139 (wanted_yes h139 _ rfl rfl rfl gc87) (ex_eql (h139.ev rfl) (h139.ev rfl)) rfl rfl fun a140 h140 => ?_
                refine sl_val h140 (wanted_none _ _ rfl) (ex_pick_t (h140.ev rfl) gc87 (h140.ev rfl)) rfl rfl fun a141 h141 => ?_
                exact st_nil ⟨h141.mid (m := [(_, _), (_, _)]) rfl, S132⟩
              case hf =>
                intro gc87
                refine sl_no h138 (wanted_no h138 _ rfl rfl rfl gc87) rfl rfl fun a142 h142 => ?_
                refine sl_no h142 (wanted_no h142 _ rfl rfl rfl gc87) rfl rfl fun a143 h143 => ?_
                refine sl_val h143 (wanted_none _ _ rfl) (ex_pick_f (h143.ev rfl) gc87 (h143.ev rfl)) rfl rfl fun a144 h144 => ?_
                exact st_nil ⟨h144.mid (m := [(_, _), (_, _)]) rfl, S132⟩
              case h =>
                rintro a145 X145 ⟨h145, S145⟩
                refine sl_val h145 (wanted_none _ _ rfl) (ex_move (h145.ev rfl)) rfl rfl fun a146 h146 => ?_
                apply sl_and h146 S145 91 rfl 3 94
                case ht =>
                  intro gc91
                  refine sl_val h146 (wanted_yes h146 _ rfl rfl rfl gc91) (ex_move (h146.ev rfl)) rfl rfl fun a147 h147 => ?_
                  refine sl_val h147 (wanted_yes h147 _ rfl rfl rfl gc91) (ex_eql (h147.ev rfl) (h147.ev rfl)) rfl rfl fun a148 h148 => ?_
                  refine sl_val h148 (wanted_none _ _ rfl) (ex_pick_t (h148.ev rfl) gc91 (h148.ev rfl)) rfl rfl fun a149 h149 => ?_
                  exact st_nil ⟨h149.mid (m := [(_, _), (_, _)]) rfl, S145⟩
                case hf =>
                  intro gc91
                  refine sl_no h146 (wanted_no h146 _ rfl rfl rfl gc91) rfl rfl fun a150 h150 => ?_
                  refine sl_no h150 (wanted_no h150 _ rfl rfl rfl gc91) rfl rfl fun a151 h151 => ?_
                  refine sl_val h151 (wanted_none _ _ rfl) (ex_pick_f (h151.ev rfl) gc91 (h151.ev rfl)) rfl rfl fun a152 h152 => ?_
                  exact st_nil ⟨h152.mid (m := [(_, _), (_, _)]) rfl, S145⟩
                case h =>
                  rintro a153 X153 ⟨h153, S153⟩
                  refine sl_val h153 (wanted_none _ _ rfl) (ex_assign (h153.ev rfl)) rfl rfl fun a154 h154 => ?_
                  refine st_nil ?_
                  refine go_then ?_
                  refine wp_ret ?_
                  refine ret_then ?_
                  refine fin1 h154 rfl rfl ?_
                  refine ⟨?_, S153.below⟩
                  unfold rmsV; rw [if_neg hne]; simp
            · skip
              have hz : (chkR r).2 = 0 := by simpa using hc4
              have hok := ok_iff.1 hz
              refine wp_skip ?_
              refine go_then ?_
              refine st_seq ?_
              refine st_reg ?_
              refine sl_val (v := ringV r A c) h134 (wanted_none _ _ rfl) (ex_loads (by kernel_rfl) (by kernel_rfl) (h134.ev rfl) (S132.cellsAll (i := 3) rfl)) rfl rfl fun a155 h155 => ?_
              refine sl_bel h155 (wanted_none _ _ rfl) (ex_call (fun _ _ => by kernel_rfl) (h155.evs rfl) rfl) rfl rfl S132 (rRooms_any r A c _ (S132.rd0 hr) hok.last hok.o hlen) fun a156 X156 h156 S156 => ?_
              refine sl_val h156 (wanted_none _ _ rfl) (ex_move (h156.ev rfl)) rfl rfl fun a157 h157 => ?_
              refine sl_val h157 (wanted_none _ _ rfl) (ex_extract (h157.ev rfl) rfl) rfl rfl fun a158 h158 => ?_
              refine sl_val h158 (wanted_none _ _ rfl) (ex_extract (h158.ev rfl) rfl) rfl rfl fun a159 h159 => ?_
              refine sl_val h159 (wanted_none _ _ rfl) (ex_assign (h159.ev rfl)) rfl rfl fun a160 h160 => ?_
              refine sl_val h160 (wanted_none _ _ rfl) (ex_assign (h160.ev rfl)) rfl rfl fun a161 h161 => ?_
              refine st_nil ?_
              refine go_then ?_
              refine st_seq ?_
              refine st_reg ?_
              refine sl_val h161 (wanted_none _ _ rfl) (ex_move (h161.ev rfl)) rfl rfl fun a162 h162 => ?_
              refine sl_val h162 (wanted_none _ _ rfl) (ex_eql (h162.ev rfl) (h162.ev rfl)) rfl rfl fun a163 h163 => ?_
              refine sl_val h163 (wanted_none _ _ rfl) (ex_move (h163.ev rfl)) rfl rfl fun a164 h164 => ?_
              apply sl_and h164 S156 102 rfl 4 106
              case ht =>
                intro gc102
                refine sl_val h164 (wanted_yes h164 _ rfl rfl rfl gc102) (ex_move (h164.ev rfl)) rfl rfl fun a165 h165 => ?_
                refine sl_val h165 (wanted_yes h165 _ rfl rfl rfl gc102) (ex_move (h165.ev rfl)) rfl rfl fun a166 h166 => ?_
                refine sl_val h166 (wanted_yes h166 _ rfl rfl rfl gc102) (ex_eql (h166.ev rfl) (h166.ev rfl)) rfl rfl fun a167 h167 => ?_
                refine sl_val h167 (wanted_none _ _ rfl) (ex_pick_t (h167.ev rfl) gc102 (h167.ev rfl)) rfl rfl fun a168 h168 => ?_
                exact st_nil ⟨h168.mid (m := [(_, _), (_, _), (_, _)]) rfl, S156⟩
              case hf =>
                intro gc102
                refine sl_no h164 (wanted_no h164 _ rfl rfl rfl gc102) rfl rfl fun a169 h169 => ?_
                refine sl_no h169 (wanted_no h169 _ rfl rfl rfl gc102) rfl rfl fun a170 h170 => ?_
                refine sl_no h170 (wanted_no h170 _ rfl rfl rfl gc102) rfl rfl fun a171 h171 => ?_
                refine sl_val h171 (wanted_none _ _ rfl) (ex_pick_f (h171.ev rfl) gc102 (h171.ev rfl)) rfl rfl fun a172 h172 => ?_
                exact st_nil ⟨h172.mid (m := [(_, _), (_, _), (_, _)]) rfl, S156⟩
              case h =>
                rintro a173 X173 ⟨h173, S173⟩
                refine sl_val h173 (wanted_none _ _ rfl) (ex_move (h173.ev rfl)) rfl rfl fun a174 h174 => ?_
                apply sl_and h174 S173 107 rfl 4 111
                case ht =>
                  intro gc107
                  refine sl_val h174 (wanted_yes h174 _ rfl rfl rfl gc107) (ex_move (h174.ev rfl)) rfl rfl fun a175 h175 => ?_
                  refine sl_val h175 (wanted_yes h175 _ rfl rfl rfl gc107) (ex_move (h175.ev rfl)) rfl rfl fun a176 h176 => ?_
                  refine sl_val h176 (wanted_yes h176 _ rfl rfl rfl gc107) (ex_eql (h176.ev rfl) (h176.ev rfl)) rfl rfl fun a177 h177 => ?_
                  refine sl_val h177 (wanted_none _ _ rfl) (ex_pick_t (h177.ev rfl) gc107 (h177.ev rfl)) rfl rfl fun a178 h178 => ?_
                  exact st_nil ⟨h178.mid (m := [(_, _), (_, _), (_, _)]) rfl, S173⟩
                case hf =>
                  intro gc107
                  refine sl_no h174 (wanted_no h174 _ rfl rfl rfl gc107) rfl rfl fun a179 h179 => ?_
                  refine sl_no h179 (wanted_no h179 _ rfl rfl rfl gc107) rfl rfl fun a180 h180 => ?_
                  refine sl_no h180 (wanted_no h180 _ rfl rfl rfl gc107) rfl rfl fun a181 h181 => ?_
                  refine sl_val h181 (wanted_none _ _ rfl) (ex_pick_f (h181.ev rfl) gc107 (h181.ev rfl)) rfl rfl fun a182 h182 => ?_
                  exact st_nil ⟨h182.mid (m := [(_, _), (_, _), (_, _)]) rfl, S173⟩
                case h =>
                  rintro a183 X183 ⟨h183, S183⟩
                  refine sl_val h183 (wanted_none _ _ rfl) (ex_assign (h183.ev rfl)) rfl rfl fun a184 h184 => ?_
                  refine st_nil ?_
                  refine go_then ?_
                  refine wp_ret ?_
                  refine fin1 h184 rfl rfl ?_
                  refine ⟨?_, S183.below⟩
                  unfold rmsV; rw [if_pos hz, hz]; simp
    case hB => kernel_rfl
    case hst => rfl
end Go.Proofs.YtmlilplbdpjfcaaGreatDoor
