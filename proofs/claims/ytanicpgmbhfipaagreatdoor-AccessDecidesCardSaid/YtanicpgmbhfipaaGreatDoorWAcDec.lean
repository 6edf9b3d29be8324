/-
  Chapter 17: the law AccessDecides: its walk.
-/
import Derived.Test.YtanicpgmbhfipaaGreatDoorAcL
namespace Go.Proofs.YtanicpgmbhfipaaGreatDoor
set_option linter.unusedVariables false
set_option linter.unusedSimpArgs false
open Go.RowKit Go.Sort

set_option maxRecDepth 100000 in
set_option maxHeartbeats 4000000 in
theorem wAccessDecides (d : DscP) (A1 A2 : Option Addr) (c1 c2 : Nat) (t : TokP) (A : Option Addr) (c : Nat) (m : Int) (w : World) (hr1 : Rd w w.heap.size A1 (acesV d.es)) (hr2 : Rd w w.heap.size A2 (acesV d.us)) (hr3 : Rd w w.heap.size A (t.gs.map (.int .i64))) (hg : GrT w) :
    Calls Tryz.prog 3 #[dscV d A1 A2 c1 c2, tokV t A c, .int .i64 m] w fun e w' => e = .returned (.bool true) ∧ Below w.heap.size w w' := by
  have HF := Lib.hid (fun W => few_any d t A1 A2 A c1 c2 c W)
  have HW := Lib.hid (fun W (hW : Below w.heap.size w W) => awake17_any W (hg.below hW))
  have bD := (Box.new w (dscC d A1 A2 c1 c2) 24).old (.cells (tokC t A c) 27)
  have bT := Box.new (w.alloc (.cells (dscC d A1 A2 c1 c2) 24)) (tokC t A c) 27
  rw [World.size_alloc] at bT
  have BD := Lib.hid (fun W hW => bD.below (w' := W) hW)
  have BT := Lib.hid (fun W hW => bT.below (w' := W) hW)
  unfold dscC tokC at BD BT
  obtain ⟨fw, hfw⟩ : ∃ fw, fw = fewB d t := ⟨_, rfl⟩
  rw [← hfw] at HF
  cases fw
  · clear bD bT hr1 hr2 hr3 hg hfw
    unfold dscV tokV at *
    go_enter Tryz.func3, Tryz.ntmps3
    go_wp2_with (first | (go_at_call 9; refine (HW.out _ (bel_alloc (bel_alloc (Below.refl _ _) _) _)).mono ?_; rintro e V ⟨rfl, hV⟩; obtain ⟨hcV, hfV⟩ := bcell hV) | (go_at_call 10; refine (HF.out _).mono ?_; rintro e V2 ⟨rfl, hbV2⟩; obtain ⟨hcV2, hfV2⟩ := bcell hbV2))
    go_ret
    exact ⟨rfl, by (repeat (first | assumption | exact Below.refl _ _ | refine bel_drewN ?_ _ | refine bel_alloc ?_ _ | refine bel_trans ?_ (by assumption) | refine Below.trans ?_ (by assumption)))⟩
  · have hlen : d.es.length ≤ 20 ∧ d.us.length ≤ 20 ∧ t.gs.length ≤ 18 := by
      unfold fewB fewD at hfw
      simp at hfw
      omega
    have hdt : DT d t A1 A2 A w := ⟨by omega, by omega, by omega, hr1, hr2, hr3, hg⟩
    have HDT := Lib.hid (fun W (hW : Below w.heap.size w W) => hdt.below hW)
    clear bD bT hr1 hr2 hr3 hg hfw
    obtain ⟨e0, he0⟩ : ∃ e, e = botE d t := ⟨_, rfl⟩
    obtain ⟨n0, hn0⟩ : ∃ e, e = (if botE d t = 0 then rgtP d t else 0) := ⟨_, rfl⟩
    obtain ⟨L, hL⟩ : ∃ e, e = (if botE d t = 0 then decP d t else []) := ⟨_, rfl⟩
    obtain ⟨f0, hf0⟩ : ∃ e, e = triE d t m := ⟨_, rfl⟩
    obtain ⟨b0, hb0⟩ : ∃ e, e = (if triE d t m = 0 then bits .andNot .i64 m (rgtP d t) == 0 else false) := ⟨_, rfl⟩
    obtain ⟨m0, hm0⟩ : ∃ e, e = (if triE d t m = 0 then bits .andNot .i64 m (rgtP d t) else 0) := ⟨_, rfl⟩
    have HA := Lib.hid (fun B1 B2 B k1 k2 k W h => RightsFor_any d t B1 B2 B k1 k2 k W h)
    have HB := Lib.hid (fun B1 B2 B k1 k2 k W h => AccessTo_any d t m B1 B2 B k1 k2 k W h)
    have HC := Lib.hid (fun B1 B2 B k1 k2 k W h => DecidedBy_any d t B1 B2 B k1 k2 k W h)
    have HE := Lib.hid (fun W (hW : Below w.heap.size w W) => bothErr_any d t A1 A2 A c1 c2 c W (HDT.out W hW))
    rw [← he0] at HE
    rw [← hn0, ← he0] at HA
    rw [← hb0, ← hm0, ← hf0] at HB
    rw [← hL, ← he0] at HC
    have H1 := Lib.hid he0
    have H2 := Lib.hid hn0
    have H3 := Lib.hid hL
    have H4 := Lib.hid hf0
    have H5 := Lib.hid hb0
    have H6 := Lib.hid hm0
    clear he0 hn0 hL hf0 hb0 hm0
    unfold dscV tokV at HF HE
    unfold dscV tokV
    go_enter Tryz.func3, Tryz.ntmps3
    go_wp2_with (first | (go_at_call 9; refine (HW.out _ (bel_alloc (bel_alloc (Below.refl _ _) _) _)).mono ?_; rintro e V ⟨rfl, hV⟩; obtain ⟨hcV, hfV⟩ := bcell hV) | (go_at_call 10; refine (HF.out _).mono ?_; rintro e V2 ⟨rfl, hbV2⟩; obtain ⟨hcV2, hfV2⟩ := bcell hbV2))
    have bel := bel_trans hV hbV2
    have hb := bel_trans (bel_alloc (bel_alloc (Below.refl _ w) (.cells (dscC d A1 A2 c1 c2) 24)) (.cells (tokC t A c) 27)) bel
    have bd := BD.out V2 bel
    have bt := BT.out V2 bel
    have y0 : V2.cell? ⟨w.heap.size, 0, none⟩ = some (.int .i64 d.o) := Box.cells bd 0; have y1 : V2.cell? ⟨w.heap.size, 1, none⟩ = some (.int .i64 d.g) := Box.cells bd 1; have y2 : V2.cell? ⟨w.heap.size, 2, none⟩ = some (.bool d.pr) := Box.cells bd 2; have y3 : V2.cell? ⟨w.heap.size, 3, none⟩ = some (.bool d.he) := Box.cells bd 3; have y4 : V2.cell? ⟨w.heap.size, 4, none⟩ = some (.slice A1 d.es.length c1) := Box.cells bd 4; have y5 : V2.cell? ⟨w.heap.size, 5, none⟩ = some (.slice A2 d.us.length c2) := Box.cells bd 5
    have z0 : V2.cell? ⟨w.heap.size + 1, 0, none⟩ = some (.int .i64 t.u) := Box.cells bt 0; have z1 : V2.cell? ⟨w.heap.size + 1, 1, none⟩ = some (.slice A t.gs.length c) := Box.cells bt 1; have z2 : V2.cell? ⟨w.heap.size + 1, 2, none⟩ = some (.int .i64 t.p) := Box.cells bt 2
    have l0 := bd.lt
    have l1 := bt.lt
    have HB0 := Lib.hid hb
    have BD := Lib.hid (fun W hW => bd.below (w' := W) hW)
    have BT := Lib.hid (fun W hW => bt.below (w' := W) hW)
    clear hcV hfV hcV2 hfV2 hV hbV2 bel hb bd bt
    (refine wp_region_flow [false, true, false, true, true, true, true, true, true] [⟨1, [], DscO d, false⟩, ⟨3, [], TokO t, false⟩, ⟨4, [1, 3], EqV (.tuple #[.int .i64 n0, .int .i64 e0]), false⟩, ⟨5, [4], EqV (.tuple #[.int .i64 n0, .int .i64 e0]), false⟩, ⟨6, [5], EqV (.int .i64 n0), false⟩, ⟨7, [5], EqV (.int .i64 e0), false⟩, ⟨8, [6], EqV (.int .i64 n0), false⟩] (by kernel_rfl) (by kernel_rfl) (by kernel_rfl) (by kernel_rfl) ?_; simp only [pick, List.length_cons, List.length_nil, List.drop_succ_cons, List.drop_zero, Nat.zero_add, Nat.reduceAdd]; apply Exists.intro; refine ⟨fun X hX => ?_, ?_⟩; (focus (obtain ⟨hcX, hfX⟩ := bcell hX; have hgX := regcell hX; have hsX := hX.size; (try simp only [World.size_alloc] at hsX); (repeat (go_big_quiet_step ((first | fail)))); exact wpQuiet_nil rfl)); simp only [wpND, told, toldAll, List.contains_cons, List.contains_nil, List.mem_cons, List.not_mem_nil, forall_eq_or_imp, false_implies, implies_true, and_true, Nat.reduceBEq, BEq.rfl, beq_self_eq_true, Bool.or_false, Bool.false_or, Bool.true_or, Bool.or_true, Bool.false_eq_true, if_true, if_false, true_implies, dstAt, List.getElem?_toArray, List.getElem?_cons_succ, List.getElem?_cons_zero, Option.some.injEq, forall_eq', Option.bind_some, Act.put, List.setIfInBounds_toArray, List.set_cons_succ, List.set_cons_zero])
    refine ⟨DscO.stable, fun X hX => ?_, fun v1 => ⟨TokO.stable, fun X hX => ?_, fun v3 => ⟨EqV.stable, fun X hX hf => ?_, fun v4 => ⟨EqV.stable, fun X hX hf => ?_, fun v5 => ⟨EqV.stable, fun X hX hf => ?_, fun v6 => ⟨EqV.stable, fun X hX hf => ?_, fun v7 => ⟨EqV.stable, fun X hX hf => ?_, fun v8 => fun X hX hf => ?_⟩⟩⟩⟩⟩⟩⟩
    · exact leaf_dsc (c1 := c1) (c2 := c2) (by kernel_rfl) (by omega) (by omega) (HDT.out X (bel_trans HB0.out hX)).r1 (HDT.out X (bel_trans HB0.out hX)).r2
    · exact leaf_tok (c := c) (by kernel_rfl) (by omega) (HDT.out X (bel_trans HB0.out hX)).r3
    · (obtain ⟨⟨B, k, rfl, g3⟩, B1, B2, k1, k2, rfl, g1, g2⟩ := hf; refine leaves_call' (f := 11) (args := #[dscV d B1 B2 k1 k2, tokV t B k]) (by kernel_rfl) ((HA.out B1 B2 B k1 k2 k X ((HDT.out X (bel_trans HB0.out hX)).copies (Below.refl _ _) g1 g2 g3)).mono ?_); rintro e W1 ⟨rfl, hb⟩; exact ⟨_, rfl, hb, rfl⟩)
    · unfold EqV at hf; subst hf; exact leaves_pure' (by kernel_rfl) rfl
    · unfold EqV at hf; subst hf; exact leaves_pure' (by kernel_rfl) rfl
    · unfold EqV at hf; subst hf; exact leaves_pure' (by kernel_rfl) rfl
    · unfold EqV at hf; subst hf; exact leaves_pure' (by kernel_rfl) rfl
    obtain ⟨h8, h7, _⟩ := id hf
    unfold EqV at h8 h7
    subst h8 h7
    have hb := bel_trans HB0.out hX; have bd := BD.out X hX; have bt := BT.out X hX; clear y0 y1 y2 y3 y4 y5 z0 z1 z2 l0 l1 HB0 BD BT; have y0 : X.cell? ⟨w.heap.size, 0, none⟩ = some (.int .i64 d.o) := Box.cells bd 0; have y1 : X.cell? ⟨w.heap.size, 1, none⟩ = some (.int .i64 d.g) := Box.cells bd 1; have y2 : X.cell? ⟨w.heap.size, 2, none⟩ = some (.bool d.pr) := Box.cells bd 2; have y3 : X.cell? ⟨w.heap.size, 3, none⟩ = some (.bool d.he) := Box.cells bd 3; have y4 : X.cell? ⟨w.heap.size, 4, none⟩ = some (.slice A1 d.es.length c1) := Box.cells bd 4; have y5 : X.cell? ⟨w.heap.size, 5, none⟩ = some (.slice A2 d.us.length c2) := Box.cells bd 5; have z0 : X.cell? ⟨w.heap.size + 1, 0, none⟩ = some (.int .i64 t.u) := Box.cells bt 0; have z1 : X.cell? ⟨w.heap.size + 1, 1, none⟩ = some (.slice A t.gs.length c) := Box.cells bt 1; have z2 : X.cell? ⟨w.heap.size + 1, 2, none⟩ = some (.int .i64 t.p) := Box.cells bt 2; have l0 := bd.lt; have l1 := bt.lt; have HB0 := Lib.hid hb; have BD := Lib.hid (fun W hW => bd.below (w' := W) hW); have BT := Lib.hid (fun W hW => bt.below (w' := W) hW); clear hb bd bt hX hf
    go_wp2
    (refine wp_region_flow [false, true, false, true, false, true, true, true, true, true, true, true] [⟨1, [], DscO d, false⟩, ⟨3, [], TokO t, false⟩, ⟨5, [1, 3], EqV (.tuple #[.bool b0, .int .i64 m0, .int .i64 f0]), false⟩, ⟨6, [5], EqV (.tuple #[.bool b0, .int .i64 m0, .int .i64 f0]), false⟩, ⟨7, [6], EqV (.bool b0), false⟩, ⟨8, [6], EqV (.int .i64 m0), false⟩, ⟨9, [6], EqV (.int .i64 f0), false⟩, ⟨10, [7], EqV (.bool b0), false⟩, ⟨11, [8], EqV (.int .i64 m0), false⟩] (by kernel_rfl) (by kernel_rfl) (by kernel_rfl) (by kernel_rfl) ?_; simp only [pick, List.length_cons, List.length_nil, List.drop_succ_cons, List.drop_zero, Nat.zero_add, Nat.reduceAdd]; apply Exists.intro; refine ⟨fun X hX => ?_, ?_⟩; (focus (obtain ⟨hcX, hfX⟩ := bcell hX; have hgX := regcell hX; have hsX := hX.size; (try simp only [World.size_alloc] at hsX); (repeat (go_big_quiet_step ((first | fail)))); exact wpQuiet_nil rfl)); simp only [wpND, told, toldAll, List.contains_cons, List.contains_nil, List.mem_cons, List.not_mem_nil, forall_eq_or_imp, false_implies, implies_true, and_true, Nat.reduceBEq, BEq.rfl, beq_self_eq_true, Bool.or_false, Bool.false_or, Bool.true_or, Bool.or_true, Bool.false_eq_true, if_true, if_false, true_implies, dstAt, List.getElem?_toArray, List.getElem?_cons_succ, List.getElem?_cons_zero, Option.some.injEq, forall_eq', Option.bind_some, Act.put, List.setIfInBounds_toArray, List.set_cons_succ, List.set_cons_zero])
    refine ⟨DscO.stable, fun X hX => ?_, fun v1 => ⟨TokO.stable, fun X hX => ?_, fun v3 => ⟨EqV.stable, fun X hX hf => ?_, fun v5 => ⟨EqV.stable, fun X hX hf => ?_, fun v6 => ⟨EqV.stable, fun X hX hf => ?_, fun v7 => ⟨EqV.stable, fun X hX hf => ?_, fun v8 => ⟨EqV.stable, fun X hX hf => ?_, fun v9 => ⟨EqV.stable, fun X hX hf => ?_, fun v10 => ⟨EqV.stable, fun X hX hf => ?_, fun v11 => fun X hX hf => ?_⟩⟩⟩⟩⟩⟩⟩⟩⟩
    · exact leaf_dsc (c1 := c1) (c2 := c2) (by kernel_rfl) (by omega) (by omega) (HDT.out X (bel_trans HB0.out hX)).r1 (HDT.out X (bel_trans HB0.out hX)).r2
    · exact leaf_tok (c := c) (by kernel_rfl) (by omega) (HDT.out X (bel_trans HB0.out hX)).r3
    · (obtain ⟨⟨B, k, rfl, g3⟩, B1, B2, k1, k2, rfl, g1, g2⟩ := hf; refine leaves_call' (f := 14) (args := #[dscV d B1 B2 k1 k2, tokV t B k, .int .i64 m]) (by kernel_rfl) ((HB.out B1 B2 B k1 k2 k X ((HDT.out X (bel_trans HB0.out hX)).copies (Below.refl _ _) g1 g2 g3)).mono ?_); rintro e W1 ⟨rfl, hb⟩; exact ⟨_, rfl, hb, rfl⟩)
    · unfold EqV at hf; subst hf; exact leaves_pure' (by kernel_rfl) rfl
    · unfold EqV at hf; subst hf; exact leaves_pure' (by kernel_rfl) rfl
    · unfold EqV at hf; subst hf; exact leaves_pure' (by kernel_rfl) rfl
    · unfold EqV at hf; subst hf; exact leaves_pure' (by kernel_rfl) rfl
    · unfold EqV at hf; subst hf; exact leaves_pure' (by kernel_rfl) rfl
    · unfold EqV at hf; subst hf; exact leaves_pure' (by kernel_rfl) rfl
    obtain ⟨h11, h10, h9, _⟩ := id hf
    unfold EqV at h11 h10 h9
    subst h11 h10 h9
    have hb := bel_trans HB0.out hX; have bd := BD.out X hX; have bt := BT.out X hX; clear y0 y1 y2 y3 y4 y5 z0 z1 z2 l0 l1 HB0 BD BT; have y0 : X.cell? ⟨w.heap.size, 0, none⟩ = some (.int .i64 d.o) := Box.cells bd 0; have y1 : X.cell? ⟨w.heap.size, 1, none⟩ = some (.int .i64 d.g) := Box.cells bd 1; have y2 : X.cell? ⟨w.heap.size, 2, none⟩ = some (.bool d.pr) := Box.cells bd 2; have y3 : X.cell? ⟨w.heap.size, 3, none⟩ = some (.bool d.he) := Box.cells bd 3; have y4 : X.cell? ⟨w.heap.size, 4, none⟩ = some (.slice A1 d.es.length c1) := Box.cells bd 4; have y5 : X.cell? ⟨w.heap.size, 5, none⟩ = some (.slice A2 d.us.length c2) := Box.cells bd 5; have z0 : X.cell? ⟨w.heap.size + 1, 0, none⟩ = some (.int .i64 t.u) := Box.cells bt 0; have z1 : X.cell? ⟨w.heap.size + 1, 1, none⟩ = some (.slice A t.gs.length c) := Box.cells bt 1; have z2 : X.cell? ⟨w.heap.size + 1, 2, none⟩ = some (.int .i64 t.p) := Box.cells bt 2; have l0 := bd.lt; have l1 := bt.lt; have HB0 := Lib.hid hb; have BD := Lib.hid (fun W hW => bd.below (w' := W) hW); have BT := Lib.hid (fun W hW => bt.below (w' := W) hW); clear hb bd bt hX hf
    go_wp2
    (refine wp_region_flow [false, true, false, true, true, true, true, true, true] [⟨1, [], DscO d, false⟩, ⟨3, [], TokO t, false⟩, ⟨4, [1, 3], (RowT w.heap.size L e0), false⟩, ⟨5, [4], (RowT w.heap.size L e0), false⟩, ⟨6, [5], (RowS w.heap.size L), false⟩, ⟨7, [5], EqV (.int .i64 e0), false⟩, ⟨8, [6], (RowS w.heap.size L), false⟩] (by kernel_rfl) (by kernel_rfl) (by kernel_rfl) (by kernel_rfl) ?_; simp only [pick, List.length_cons, List.length_nil, List.drop_succ_cons, List.drop_zero, Nat.zero_add, Nat.reduceAdd]; apply Exists.intro; refine ⟨fun X hX => ?_, ?_⟩; (focus (obtain ⟨hcX, hfX⟩ := bcell hX; have hgX := regcell hX; have hsX := hX.size; (try simp only [World.size_alloc] at hsX); (repeat (go_big_quiet_step ((first | fail)))); exact wpQuiet_nil rfl)); simp only [wpND, told, toldAll, List.contains_cons, List.contains_nil, List.mem_cons, List.not_mem_nil, forall_eq_or_imp, false_implies, implies_true, and_true, Nat.reduceBEq, BEq.rfl, beq_self_eq_true, Bool.or_false, Bool.false_or, Bool.true_or, Bool.or_true, Bool.false_eq_true, if_true, if_false, true_implies, dstAt, List.getElem?_toArray, List.getElem?_cons_succ, List.getElem?_cons_zero, Option.some.injEq, forall_eq', Option.bind_some, Act.put, List.setIfInBounds_toArray, List.set_cons_succ, List.set_cons_zero])
    refine ⟨DscO.stable, fun X hX => ?_, fun v1 => ⟨TokO.stable, fun X hX => ?_, fun v3 => ⟨RowT.stable, fun X hX hf => ?_, fun v4 => ⟨RowT.stable, fun X hX hf => ?_, fun v5 => ⟨RowS.stable, fun X hX hf => ?_, fun v6 => ⟨EqV.stable, fun X hX hf => ?_, fun v7 => ⟨RowS.stable, fun X hX hf => ?_, fun v8 => fun X hX hf => ?_⟩⟩⟩⟩⟩⟩⟩
    · exact leaf_dsc (c1 := c1) (c2 := c2) (by kernel_rfl) (by omega) (by omega) (HDT.out X (bel_trans HB0.out hX)).r1 (HDT.out X (bel_trans HB0.out hX)).r2
    · exact leaf_tok (c := c) (by kernel_rfl) (by omega) (HDT.out X (bel_trans HB0.out hX)).r3
    · (obtain ⟨⟨B, k, rfl, g3⟩, B1, B2, k1, k2, rfl, g1, g2⟩ := hf; refine leaves_call' (f := 15) (args := #[dscV d B1 B2 k1 k2, tokV t B k]) (by kernel_rfl) ((HC.out B1 B2 B k1 k2 k X ((HDT.out X (bel_trans HB0.out hX)).copies (Below.refl _ _) g1 g2 g3)).mono ?_); rintro e W1 ⟨Ao, co, rfl, ho, hb⟩; exact ⟨_, rfl, hb, Ao, co, rfl, ownsRow_mono ho (bel_trans HB0.out hX).size⟩)
    · obtain ⟨Ao, co, rfl, ho⟩ := hf; exact leaves_pure' (by kernel_rfl) ⟨Ao, co, rfl, ho⟩
    · obtain ⟨Ao, co, rfl, ho⟩ := hf; exact leaves_pure' (by kernel_rfl) ⟨Ao, co, rfl, ho⟩
    · obtain ⟨Ao, co, rfl, ho⟩ := hf; exact leaves_pure' (by kernel_rfl) rfl
    · obtain ⟨Ao, co, rfl, ho⟩ := hf; exact leaves_pure' (by kernel_rfl) ⟨Ao, co, rfl, ho⟩
    obtain ⟨h8, h7, _⟩ := id hf
    obtain ⟨Ao, co, rfl, ho⟩ := h8
    unfold EqV at h7
    subst h7
    have OL := Lib.hid ho
    have hb := bel_trans HB0.out hX; have bd := BD.out X hX; have bt := BT.out X hX; clear y0 y1 y2 y3 y4 y5 z0 z1 z2 l0 l1 HB0 BD BT; have y0 : X.cell? ⟨w.heap.size, 0, none⟩ = some (.int .i64 d.o) := Box.cells bd 0; have y1 : X.cell? ⟨w.heap.size, 1, none⟩ = some (.int .i64 d.g) := Box.cells bd 1; have y2 : X.cell? ⟨w.heap.size, 2, none⟩ = some (.bool d.pr) := Box.cells bd 2; have y3 : X.cell? ⟨w.heap.size, 3, none⟩ = some (.bool d.he) := Box.cells bd 3; have y4 : X.cell? ⟨w.heap.size, 4, none⟩ = some (.slice A1 d.es.length c1) := Box.cells bd 4; have y5 : X.cell? ⟨w.heap.size, 5, none⟩ = some (.slice A2 d.us.length c2) := Box.cells bd 5; have z0 : X.cell? ⟨w.heap.size + 1, 0, none⟩ = some (.int .i64 t.u) := Box.cells bt 0; have z1 : X.cell? ⟨w.heap.size + 1, 1, none⟩ = some (.slice A t.gs.length c) := Box.cells bt 1; have z2 : X.cell? ⟨w.heap.size + 1, 2, none⟩ = some (.int .i64 t.p) := Box.cells bt 2; have l0 := bd.lt; have l1 := bt.lt; have HB0 := Lib.hid hb; have BD := Lib.hid (fun W hW => bd.below (w' := W) hW); have BT := Lib.hid (fun W hW => bt.below (w' := W) hW); clear hb bd bt hX hf
    by_cases h0 : e0 = 0
    · have g0 : botE d t = 0 := H1.out.symm.trans h0
      obtain ⟨k0, hk0⟩ : ∃ k, k = mskE m := ⟨_, rfl⟩
      have gn : n0 = rgtP d t := by rw [H2.out, if_pos g0]
      have gl : L = decP d t := by rw [H3.out, if_pos g0]
      have gf0 : f0 = k0 := by rw [H4.out, triE_eq, if_neg (by simpa using g0), hk0]
      have ho := dtO_of g0
      have HR := Lib.hid (fun W (hW : Below w.heap.size w W) => refRights_any d t A1 A2 A c1 c2 c W (HDT.out W hW) ho)
      have HS := Lib.hid (fun W (hW : Below w.heap.size w W) => refDecided_any d t A1 A2 A c1 c2 c W (HDT.out W hW) ho)
      have HM := Lib.hid (fun W => MaskErr_any m W)
      rw [← hk0] at HM
      rw [← gl] at HS
      rw [← gn] at HR
      have G := Lib.hid (And.intro g0 (And.intro gn (And.intro gl hk0)))
      unfold dscV tokV at HR HS
      have gf : triE d t m = k0 := H4.out.symm.trans gf0
      subst h0
      subst f0
      clear g0 gn gl hk0 ho
      have LM := Lib.hid (show L.length ≤ maxLen by rw [G.out.2.2.1]; unfold maxLen decP; simp)
      by_cases hm : k0 = 0
      · subst hm
        have hbm := mask_bits G.out.2.2.2.symm d t
        rw [← G.out.2.1] at hbm
        obtain ⟨x, hx⟩ : ∃ x, x = bits .and .i64 m n0 := ⟨_, rfl⟩
        rw [← hx] at hbm
        obtain ⟨b1, b2, b3, b4, b5, b6⟩ := hbm
        obtain rfl : b0 = (x == m) := by rw [H5.out, gf, if_pos rfl, ← G.out.2.1]; exact b2
        obtain rfl : m0 = m - x := by rw [H6.out, gf, if_pos rfl, ← G.out.2.1]; exact b1
        replace hx := hx.symm
        clear b1 b2 gf
        go_wp2_with (first | (go_at_call 16; refine (HE.out _ HB0.out).mono ?_; rintro e V3 ⟨rfl, hV3⟩; obtain ⟨hcV3, hfV3⟩ := bcell hV3; have ls3 : w.heap.size < V3.heap.size := (by have := hV3.size; omega); have lt3 : w.heap.size + 1 < V3.heap.size := (by have := hV3.size; omega); have hb := bel_trans HB0.out hV3) | (go_at_call 17; refine (HR.out _ hb).mono ?_; rintro e V4 ⟨rfl, hV4⟩; obtain ⟨hcV4, hfV4⟩ := bcell hV4; have ls4 : w.heap.size < V4.heap.size := (by have := hV4.size; omega); have lt4 : w.heap.size + 1 < V4.heap.size := (by have := hV4.size; omega); have hb := bel_trans hb hV4) | (go_at_call 19; refine (HS.out _ hb).mono ?_; rintro e V5 ⟨AD, cD, rfl, oD, hV5⟩; obtain ⟨hcV5, hfV5⟩ := bcell hV5; have ls5 : w.heap.size < V5.heap.size := (by have := hV5.size; omega); have lt5 : w.heap.size + 1 < V5.heap.size := (by have := hV5.size; omega); have OL5 := Lib.hid (ownsRow_below OL.out (bel_trans hV3 (bel_trans hV4 hV5))); have OD5 := Lib.hid oD; have hb := bel_trans hb hV5; clear oD) | (go_at_call 18; refine (Ints_any Ao AD co cD L L V5 LM.out LM.out (Rd.of_own OL5.out) (Rd.of_own OD5.out)).mono ?_; rintro e V6 ⟨he6, hV6⟩; obtain rfl := he6.trans (by rw [decide_eq_true rfl]); clear he6; obtain ⟨hcV6, hfV6⟩ := bcell hV6; have ls6 : w.heap.size < V6.heap.size := (by have := hV6.size; omega); have lt6 : w.heap.size + 1 < V6.heap.size := (by have := hV6.size; omega); have hb := bel_trans hb hV6) | (go_at_call 20; refine (HM.out _).mono ?_; rintro e w' ⟨rfl, rfl⟩))
        go_ret
        exact ⟨rfl, hb⟩
      · have hm' : (k0 != 0) = true := by simpa using hm
        obtain rfl : b0 = false := by rw [H5.out, gf, if_neg hm]
        obtain rfl : m0 = 0 := by rw [H6.out, gf, if_neg hm]
        clear gf
        go_wp2_with (first | (go_at_call 16; refine (HE.out _ HB0.out).mono ?_; rintro e V3 ⟨rfl, hV3⟩; obtain ⟨hcV3, hfV3⟩ := bcell hV3; have ls3 : w.heap.size < V3.heap.size := (by have := hV3.size; omega); have lt3 : w.heap.size + 1 < V3.heap.size := (by have := hV3.size; omega); have hb := bel_trans HB0.out hV3) | (go_at_call 17; refine (HR.out _ hb).mono ?_; rintro e V4 ⟨rfl, hV4⟩; obtain ⟨hcV4, hfV4⟩ := bcell hV4; have ls4 : w.heap.size < V4.heap.size := (by have := hV4.size; omega); have lt4 : w.heap.size + 1 < V4.heap.size := (by have := hV4.size; omega); have hb := bel_trans hb hV4) | (go_at_call 19; refine (HS.out _ hb).mono ?_; rintro e V5 ⟨AD, cD, rfl, oD, hV5⟩; obtain ⟨hcV5, hfV5⟩ := bcell hV5; have ls5 : w.heap.size < V5.heap.size := (by have := hV5.size; omega); have lt5 : w.heap.size + 1 < V5.heap.size := (by have := hV5.size; omega); have OL5 := Lib.hid (ownsRow_below OL.out (bel_trans hV3 (bel_trans hV4 hV5))); have OD5 := Lib.hid oD; have hb := bel_trans hb hV5; clear oD) | (go_at_call 18; refine (Ints_any Ao AD co cD L L V5 LM.out LM.out (Rd.of_own OL5.out) (Rd.of_own OD5.out)).mono ?_; rintro e V6 ⟨he6, hV6⟩; obtain rfl := he6.trans (by rw [decide_eq_true rfl]); clear he6; obtain ⟨hcV6, hfV6⟩ := bcell hV6; have ls6 : w.heap.size < V6.heap.size := (by have := hV6.size; omega); have lt6 : w.heap.size + 1 < V6.heap.size := (by have := hV6.size; omega); have hb := bel_trans hb hV6) | (go_at_call 20; refine (HM.out _).mono ?_; rintro e w' ⟨rfl, rfl⟩))
        go_ret
        exact ⟨rfl, hb⟩
    · have h0' : (e0 != 0) = true := by simpa using h0
      have hb : botE d t ≠ 0 := fun h => h0 (H1.out.trans h)
      obtain rfl : L = [] := by rw [H3.out, if_neg hb]
      obtain rfl : n0 = 0 := by rw [H2.out, if_neg hb]
      have ht : triE d t m = e0 := by rw [triE_eq, if_pos hb, H1.out]
      obtain rfl : f0 = e0 := by rw [H4.out, ht]
      obtain rfl : b0 = false := by rw [H5.out, ht, if_neg h0]
      obtain rfl : m0 = 0 := by rw [H6.out, ht, if_neg h0]
      clear hb ht
      go_wp2_with ((go_at_call 16; refine (HE.out _ HB0.out).mono ?_; rintro e V3 ⟨rfl, hbV3⟩; obtain ⟨hcV3, hfV3⟩ := bcell hbV3))
      go_ret
      exact ⟨rfl, bel_trans HB0.out hbV3⟩
end Go.Proofs.YtanicpgmbhfipaaGreatDoor
