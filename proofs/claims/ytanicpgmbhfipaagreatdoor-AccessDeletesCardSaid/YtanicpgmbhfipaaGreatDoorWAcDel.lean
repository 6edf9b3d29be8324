/-
  Chapter 17: the law AccessDeletes: its walk.
-/
import Derived.Test.YtanicpgmbhfipaaGreatDoorAcDel
import Derived.Test.YtanicpgmbhfipaaGreatDoorAcAud
import Derived.Test.YtanicpgmbhfipaaGreatDoorAcArg
import Derived.BigRegion
namespace Go.Proofs.YtanicpgmbhfipaaGreatDoor
set_option linter.unusedVariables false
set_option linter.unusedSimpArgs false
open Go.RowKit Go.Sort

/-- the two boxes of the two descriptors that were taken apart -/
def Two (a b : DscP) (A1 A2 B1 B2 : Option Addr) (a1 a2 b1 b2 : Nat) (w0 : World) (s7 s8 : Value) (wx : World) : Prop :=
  ∃ b7 b8, s7 = .pointer (some ⟨b7, 0, none⟩) ∧ s8 = .pointer (some ⟨b8, 0, none⟩) ∧ Box wx b7 (dscC a A1 A2 a1 a2) 24 ∧ Box wx b8 (dscC b B1 B2 b1 b2) 24 ∧ Below w0.heap.size w0 wx
set_option maxRecDepth 100000 in
set_option maxHeartbeats 4000000 in
theorem wAccessDeletes (a : DscP) (A1 A2 : Option Addr) (a1 a2 : Nat) (b : DscP) (B1 B2 : Option Addr) (b1 b2 : Nat) (t : TokP) (A : Option Addr) (c : Nat) (m : Int) (w : World) (hra1 : Rd w w.heap.size A1 (acesV a.es)) (hra2 : Rd w w.heap.size A2 (acesV a.us)) (hrb1 : Rd w w.heap.size B1 (acesV b.es)) (hrb2 : Rd w w.heap.size B2 (acesV b.us)) (hr3 : Rd w w.heap.size A (t.gs.map (.int .i64))) (hg : GrT w) :
    Calls Tryz.prog 6 #[dsc2V a A1 A2 a1 a2 b B1 B2 b1 b2, tokV t A c, .int .i64 m] w fun e w' => e = .returned (.bool true) ∧ Below w.heap.size w w' := by
  have HW := Lib.hid (fun W (hW : Below w.heap.size w W) => awake17_any W (hg.below hW))
  have bD := (Box.new w #[.int .i64 a.o, .int .i64 a.g, .bool a.pr, .bool a.he, .slice A1 a.es.length a1, .slice A2 a.us.length a2, .int .i64 b.o, .int .i64 b.g, .bool b.pr, .bool b.he, .slice B1 b.es.length b1, .slice B2 b.us.length b2] 64).old (.cells (tokC t A c) 27)
  have bT := Box.new (w.alloc (.cells #[.int .i64 a.o, .int .i64 a.g, .bool a.pr, .bool a.he, .slice A1 a.es.length a1, .slice A2 a.us.length a2, .int .i64 b.o, .int .i64 b.g, .bool b.pr, .bool b.he, .slice B1 b.es.length b1, .slice B2 b.us.length b2] 64)) (tokC t A c) 27
  rw [World.size_alloc] at bT
  have BD := Lib.hid (fun W hW => bD.below (w' := W) hW)
  have BT := Lib.hid (fun W hW => bT.below (w' := W) hW)
  unfold tokC at BD BT
  clear bD bT
  unfold dsc2V tokV at *
  go_enter Tryz.func6, Tryz.ntmps6
  go_upto_region 3 with (go_at_call 9; refine (HW.out _ (bel_alloc (bel_alloc (Below.refl _ _) _) _)).mono ?_; rintro e V ⟨rfl, hV⟩; obtain ⟨hcV, hfV⟩ := bcell hV)
  have bd := BD.out V hV
  have bt := BT.out V hV
  have y0 : V.cell? ⟨w.heap.size, 0, none⟩ = some (.int .i64 a.o) := Box.cells bd 0; have y1 : V.cell? ⟨w.heap.size, 1, none⟩ = some (.int .i64 a.g) := Box.cells bd 1; have y2 : V.cell? ⟨w.heap.size, 2, none⟩ = some (.bool a.pr) := Box.cells bd 2; have y3 : V.cell? ⟨w.heap.size, 3, none⟩ = some (.bool a.he) := Box.cells bd 3; have y4 : V.cell? ⟨w.heap.size, 4, none⟩ = some (.slice A1 a.es.length a1) := Box.cells bd 4; have y5 : V.cell? ⟨w.heap.size, 5, none⟩ = some (.slice A2 a.us.length a2) := Box.cells bd 5
  have x0 : V.cell? ⟨w.heap.size, 6, none⟩ = some (.int .i64 b.o) := Box.cells bd 6
  have x1 : V.cell? ⟨w.heap.size, 7, none⟩ = some (.int .i64 b.g) := Box.cells bd 7
  have x2 : V.cell? ⟨w.heap.size, 8, none⟩ = some (.bool b.pr) := Box.cells bd 8
  have x3 : V.cell? ⟨w.heap.size, 9, none⟩ = some (.bool b.he) := Box.cells bd 9
  have x4 : V.cell? ⟨w.heap.size, 10, none⟩ = some (.slice B1 b.es.length b1) := Box.cells bd 10
  have x5 : V.cell? ⟨w.heap.size, 11, none⟩ = some (.slice B2 b.us.length b2) := Box.cells bd 11
  have l0 := bd.lt
  clear hcV hfV
  go_cut [7, 8] (fun s7 s8 wx => Two a b A1 A2 B1 B2 a1 a2 b1 b2 V s7 s8 wx)
  case first =>
    go_region
    · go_wp2
      go_meet
      exact ⟨_, _, rfl, rfl, (Box.new V (dscC a A1 A2 a1 a2) 24).old _, (by have := Box.new (V.alloc (.cells (dscC a A1 A2 a1 a2) 24)) (dscC b B1 B2 b1 b2) 24; rw [World.size_alloc] at this; exact this), (bel_alloc (bel_alloc (Below.refl _ _) _) _).drew⟩
    · go_wp2
      go_meet
      exact ⟨_, _, rfl, rfl, (by have := Box.new (V.alloc (.cells (dscC b B1 B2 b1 b2) 24)) (dscC a A1 A2 a1 a2) 24; rw [World.size_alloc] at this; exact this), (Box.new V (dscC b B1 B2 b1 b2) 24).old _, (bel_alloc (bel_alloc (Below.refl _ _) _) _).drew⟩
  case rest =>
  obtain ⟨b7, b8, rfl, rfl, ba, bb, hbV⟩ := hcut
  have hb := bel_trans (bel_trans (bel_alloc (bel_alloc (Below.refl _ w) _) _) hV) hbV
  replace bt := bt.below hbV
  clear y0 y1 y2 y3 y4 y5 x0 x1 x2 x3 x4 x5 l0 bd BD hbV hV
  unfold dscC at ba bb
  have y0 : wc.cell? ⟨b7, 0, none⟩ = some (.int .i64 a.o) := Box.cells ba 0; have y1 : wc.cell? ⟨b7, 1, none⟩ = some (.int .i64 a.g) := Box.cells ba 1; have y2 : wc.cell? ⟨b7, 2, none⟩ = some (.bool a.pr) := Box.cells ba 2; have y3 : wc.cell? ⟨b7, 3, none⟩ = some (.bool a.he) := Box.cells ba 3; have y4 : wc.cell? ⟨b7, 4, none⟩ = some (.slice A1 a.es.length a1) := Box.cells ba 4; have y5 : wc.cell? ⟨b7, 5, none⟩ = some (.slice A2 a.us.length a2) := Box.cells ba 5
  have x0 : wc.cell? ⟨b8, 0, none⟩ = some (.int .i64 b.o) := Box.cells bb 0; have x1 : wc.cell? ⟨b8, 1, none⟩ = some (.int .i64 b.g) := Box.cells bb 1; have x2 : wc.cell? ⟨b8, 2, none⟩ = some (.bool b.pr) := Box.cells bb 2; have x3 : wc.cell? ⟨b8, 3, none⟩ = some (.bool b.he) := Box.cells bb 3; have x4 : wc.cell? ⟨b8, 4, none⟩ = some (.slice B1 b.es.length b1) := Box.cells bb 4; have x5 : wc.cell? ⟨b8, 5, none⟩ = some (.slice B2 b.us.length b2) := Box.cells bb 5
  have z0 : wc.cell? ⟨w.heap.size + 1, 0, none⟩ = some (.int .i64 t.u) := Box.cells bt 0; have z1 : wc.cell? ⟨w.heap.size + 1, 1, none⟩ = some (.slice A t.gs.length c) := Box.cells bt 1; have z2 : wc.cell? ⟨w.heap.size + 1, 2, none⟩ = some (.int .i64 t.p) := Box.cells bt 2
  have l7 := ba.lt
  have l8 := bb.lt
  have l1 := bt.lt
  have HB0 := Lib.hid hb
  have BA := Lib.hid (fun W hW => ba.below (w' := W) hW)
  have BB := Lib.hid (fun W hW => bb.below (w' := W) hW)
  have BT := Lib.hid (fun W hW => bt.below (w' := W) hW)
  clear hb ba bb bt
  have HF := Lib.hid (fun W => few_any a t A1 A2 A a1 a2 c W)
  have HF2 := Lib.hid (fun W => Few_any b B1 B2 b1 b2 W)
  obtain ⟨fw, hfw⟩ : ∃ fw, fw = fewB a t := ⟨_, rfl⟩
  obtain ⟨fw2, hfw2⟩ : ∃ fw, fw = fewD b := ⟨_, rfl⟩
  rw [← hfw] at HF
  rw [← hfw2] at HF2
  unfold dscV tokV at HF
  unfold dscV at HF2
  cases fw
  · clear hra1 hra2 hrb1 hrb2 hr3 hg hfw hfw2
    go_wp2_with (go_at_call 10; refine (HF.out _).mono ?_; rintro e V2 ⟨rfl, hbV2⟩; obtain ⟨hcV2, hfV2⟩ := bcell hbV2)
    go_ret
    exact ⟨rfl, bel_trans HB0.out hbV2⟩
  cases fw2
  · clear hra1 hra2 hrb1 hrb2 hr3 hg hfw hfw2
    go_wp2_with (first | ((go_at_call 10; refine (HF.out _).mono ?_; rintro e V2 ⟨rfl, hbV2⟩; obtain ⟨hcV2, hfV2⟩ := bcell hbV2); have k8 : b8 < V2.heap.size := (by have := hbV2.size; omega)) | (go_at_call 23; refine (HF2.out _).mono ?_; rintro e V3 ⟨rfl, hbV3⟩; obtain ⟨hcV3, hfV3⟩ := bcell hbV3))
    go_ret
    exact ⟨rfl, bel_trans HB0.out (bel_trans hbV2 hbV3)⟩
  have hlen : a.es.length ≤ 20 ∧ a.us.length ≤ 20 ∧ t.gs.length ≤ 18 := by
    unfold fewB fewD at hfw
    simp at hfw
    omega
  have hlen2 : b.es.length ≤ 20 ∧ b.us.length ≤ 20 := by
    unfold fewD at hfw2
    simp at hfw2
    omega
  have hda : DT a t A1 A2 A w := ⟨by omega, by omega, by omega, hra1, hra2, hr3, hg⟩
  have hdb : DT b t B1 B2 A w := ⟨by omega, by omega, by omega, hrb1, hrb2, hr3, hg⟩
  have HDA := Lib.hid (fun W (hW : Below w.heap.size w W) => hda.below hW)
  have HDB := Lib.hid (fun W (hW : Below w.heap.size w W) => hdb.below hW)
  clear hra1 hra2 hrb1 hrb2 hr3 hg hfw hfw2 hda hdb
  go_wp2_with (first | ((go_at_call 10; refine (HF.out _).mono ?_; rintro e V2 ⟨rfl, hbV2⟩; obtain ⟨hcV2, hfV2⟩ := bcell hbV2); have k8 : b8 < V2.heap.size := (by have := hbV2.size; omega)) | (go_at_call 23; refine (HF2.out _).mono ?_; rintro e X ⟨rfl, hbX⟩; obtain ⟨hcX, hfX⟩ := bcell hbX))
  have hf := trivial
  have hX := bel_trans hbV2 hbX
  clear hcV2 hfV2 hbV2 hcX hfX hbX k8 HF HF2
  have hb := bel_trans HB0.out hX; have ba := BA.out X hX; have bb := BB.out X hX; have bt := BT.out X hX; clear y0 y1 y2 y3 y4 y5 x0 x1 x2 x3 x4 x5 z0 z1 z2 l7 l8 l1 HB0 BA BB BT; have y0 : X.cell? ⟨b7, 0, none⟩ = some (.int .i64 a.o) := Box.cells ba 0; have y1 : X.cell? ⟨b7, 1, none⟩ = some (.int .i64 a.g) := Box.cells ba 1; have y2 : X.cell? ⟨b7, 2, none⟩ = some (.bool a.pr) := Box.cells ba 2; have y3 : X.cell? ⟨b7, 3, none⟩ = some (.bool a.he) := Box.cells ba 3; have y4 : X.cell? ⟨b7, 4, none⟩ = some (.slice A1 a.es.length a1) := Box.cells ba 4; have y5 : X.cell? ⟨b7, 5, none⟩ = some (.slice A2 a.us.length a2) := Box.cells ba 5; have x0 : X.cell? ⟨b8, 0, none⟩ = some (.int .i64 b.o) := Box.cells bb 0; have x1 : X.cell? ⟨b8, 1, none⟩ = some (.int .i64 b.g) := Box.cells bb 1; have x2 : X.cell? ⟨b8, 2, none⟩ = some (.bool b.pr) := Box.cells bb 2; have x3 : X.cell? ⟨b8, 3, none⟩ = some (.bool b.he) := Box.cells bb 3; have x4 : X.cell? ⟨b8, 4, none⟩ = some (.slice B1 b.es.length b1) := Box.cells bb 4; have x5 : X.cell? ⟨b8, 5, none⟩ = some (.slice B2 b.us.length b2) := Box.cells bb 5; have z0 : X.cell? ⟨w.heap.size + 1, 0, none⟩ = some (.int .i64 t.u) := Box.cells bt 0; have z1 : X.cell? ⟨w.heap.size + 1, 1, none⟩ = some (.slice A t.gs.length c) := Box.cells bt 1; have z2 : X.cell? ⟨w.heap.size + 1, 2, none⟩ = some (.int .i64 t.p) := Box.cells bt 2; have l7 := ba.lt; have l8 := bb.lt; have l1 := bt.lt; have HB0 := Lib.hid hb; have BA := Lib.hid (fun W hW => ba.below (w' := W) hW); have BB := Lib.hid (fun W hW => bb.below (w' := W) hW); have BT := Lib.hid (fun W hW => bt.below (w' := W) hW); clear hb ba bb bt hX hf
  obtain ⟨cc, hcc⟩ : ∃ e, e = mayE a b t := ⟨_, rfl⟩
  obtain ⟨is0, his⟩ : ∃ e, e = (if mayE a b t = 0 then mayI a b t else false) := ⟨_, rfl⟩
  obtain ⟨f0, hf0⟩ : ∃ e, e = triE b t m := ⟨_, rfl⟩
  obtain ⟨L, hL⟩ : ∃ e, e = (if triE b t m = 0 then audP b t m else []) := ⟨_, rfl⟩
  obtain ⟨da, hda⟩ : ∃ e, e = dscE a := ⟨_, rfl⟩
  obtain ⟨eb, heb⟩ : ∃ e, e = botE b t := ⟨_, rfl⟩
  obtain ⟨km, hkm⟩ : ∃ e, e = mskE m := ⟨_, rfl⟩
  have HM1 := Lib.hid (fun C1 C2 D1 D2 C k1 k2 n1 n2 k W h h' => MayDelete_any a b t C1 C2 D1 D2 C k1 k2 n1 n2 k W h h')
  have HM2 := Lib.hid (fun D1 D2 C n1 n2 k W h => AuditedBy_any b t m D1 D2 C n1 n2 k W h)
  have HE1 := Lib.hid (fun W (hW : Below w.heap.size w W) => refDescErr_any a A1 A2 a1 a2 W (by omega) (by omega) (HDA.out W hW).r1 (HDA.out W hW).r2)
  have HE2 := Lib.hid (fun W (hW : Below w.heap.size w W) => bothErr_any b t B1 B2 A b1 b2 c W (HDB.out W hW))
  have HMK := Lib.hid (fun W => MaskErr_any m W)
  have HC0 := Lib.hid (show cc = if da ≠ 0 then da else eb by rw [hcc, hda, heb]; exact mayE_eq a b t)
  have HF0 := Lib.hid (show f0 = if eb ≠ 0 then eb else km by rw [hf0, heb, hkm]; exact triE_eq b t m)
  rw [← his, ← hcc] at HM1
  rw [← hL, ← hf0] at HM2
  rw [← hda] at HE1
  rw [← heb] at HE2
  rw [← hkm] at HMK
  have H1 := Lib.hid hcc
  have H2 := Lib.hid his
  have H3 := Lib.hid hf0
  have H4 := Lib.hid hL
  have H5 := Lib.hid heb
  unfold dscV at HE1
  unfold dscV tokV at HE2
  clear hcc his hf0 hL hda heb hkm
  (refine wp_region_flow [false, true, false, true, false, true, true, true, true, true, true] [⟨1, [], DscO a, false⟩, ⟨3, [], DscO b, false⟩, ⟨5, [], TokO t, false⟩, ⟨6, [1, 3, 5], EqV (.tuple #[.bool is0, .int .i64 cc]), false⟩, ⟨7, [6], EqV (.tuple #[.bool is0, .int .i64 cc]), false⟩, ⟨8, [7], EqV (.bool is0), false⟩, ⟨9, [7], EqV (.int .i64 cc), false⟩, ⟨10, [8], EqV (.bool is0), false⟩] (by kernel_rfl) (by kernel_rfl) (by kernel_rfl) (by kernel_rfl) ?_; simp only [pick, List.length_cons, List.length_nil, List.drop_succ_cons, List.drop_zero, Nat.zero_add, Nat.reduceAdd]; apply Exists.intro; refine ⟨fun X hX => ?_, ?_⟩; (focus (obtain ⟨hcX, hfX⟩ := bcell hX; have hgX := regcell hX; have hsX := hX.size; (try simp only [World.size_alloc] at hsX); (repeat (go_big_quiet_step ((first | fail)))); exact wpQuiet_nil rfl)); simp only [wpND, told, toldAll, List.contains_cons, List.contains_nil, List.mem_cons, List.not_mem_nil, forall_eq_or_imp, false_implies, implies_true, and_true, Nat.reduceBEq, BEq.rfl, beq_self_eq_true, Bool.or_false, Bool.false_or, Bool.true_or, Bool.or_true, Bool.false_eq_true, if_true, if_false, true_implies, dstAt, List.getElem?_toArray, List.getElem?_cons_succ, List.getElem?_cons_zero, Option.some.injEq, forall_eq', Option.bind_some, Act.put, List.setIfInBounds_toArray, List.set_cons_succ, List.set_cons_zero])
  refine ⟨DscO.stable, fun X hX => ?_, fun v1 => ⟨DscO.stable, fun X hX => ?_, fun v3 => ⟨TokO.stable, fun X hX => ?_, fun v5 => ⟨EqV.stable, fun X hX hf => ?_, fun v6 => ⟨EqV.stable, fun X hX hf => ?_, fun v7 => ⟨EqV.stable, fun X hX hf => ?_, fun v8 => ⟨EqV.stable, fun X hX hf => ?_, fun v9 => ⟨EqV.stable, fun X hX hf => ?_, fun v10 => fun X hX hf => ?_⟩⟩⟩⟩⟩⟩⟩⟩
  · exact leaf_dsc (c1 := a1) (c2 := a2) (by kernel_rfl) (by omega) (by omega) (HDA.out X (bel_trans HB0.out hX)).r1 (HDA.out X (bel_trans HB0.out hX)).r2
  · exact leaf_dsc (c1 := b1) (c2 := b2) (by kernel_rfl) (by omega) (by omega) (HDB.out X (bel_trans HB0.out hX)).r1 (HDB.out X (bel_trans HB0.out hX)).r2
  · exact leaf_tok (c := c) (by kernel_rfl) (by omega) (HDA.out X (bel_trans HB0.out hX)).r3
  · (obtain ⟨⟨C, k, rfl, g5⟩, ⟨D1, D2, n1, n2, rfl, g3, g4⟩, C1, C2, k1, k2, rfl, g1, g2⟩ := hf; refine leaves_call' (f := 33) (args := #[dscV a C1 C2 k1 k2, dscV b D1 D2 n1 n2, tokV t C k]) (by kernel_rfl) ((HM1.out C1 C2 D1 D2 C k1 k2 n1 n2 k X ((HDA.out X (bel_trans HB0.out hX)).copies (Below.refl _ _) g1 g2 g5) ((HDB.out X (bel_trans HB0.out hX)).copies (Below.refl _ _) g3 g4 g5)).mono ?_); rintro e W1 ⟨rfl, hb⟩; exact ⟨_, rfl, hb, rfl⟩)
  · unfold EqV at hf; subst hf; exact leaves_pure' (by kernel_rfl) rfl
  · unfold EqV at hf; subst hf; exact leaves_pure' (by kernel_rfl) rfl
  · unfold EqV at hf; subst hf; exact leaves_pure' (by kernel_rfl) rfl
  · unfold EqV at hf; subst hf; exact leaves_pure' (by kernel_rfl) rfl
  obtain ⟨h8, h7, _⟩ := id hf
  unfold EqV at h8 h7
  subst h8 h7
  have hb := bel_trans HB0.out hX; have ba := BA.out X hX; have bb := BB.out X hX; have bt := BT.out X hX; clear y0 y1 y2 y3 y4 y5 x0 x1 x2 x3 x4 x5 z0 z1 z2 l7 l8 l1 HB0 BA BB BT; have y0 : X.cell? ⟨b7, 0, none⟩ = some (.int .i64 a.o) := Box.cells ba 0; have y1 : X.cell? ⟨b7, 1, none⟩ = some (.int .i64 a.g) := Box.cells ba 1; have y2 : X.cell? ⟨b7, 2, none⟩ = some (.bool a.pr) := Box.cells ba 2; have y3 : X.cell? ⟨b7, 3, none⟩ = some (.bool a.he) := Box.cells ba 3; have y4 : X.cell? ⟨b7, 4, none⟩ = some (.slice A1 a.es.length a1) := Box.cells ba 4; have y5 : X.cell? ⟨b7, 5, none⟩ = some (.slice A2 a.us.length a2) := Box.cells ba 5; have x0 : X.cell? ⟨b8, 0, none⟩ = some (.int .i64 b.o) := Box.cells bb 0; have x1 : X.cell? ⟨b8, 1, none⟩ = some (.int .i64 b.g) := Box.cells bb 1; have x2 : X.cell? ⟨b8, 2, none⟩ = some (.bool b.pr) := Box.cells bb 2; have x3 : X.cell? ⟨b8, 3, none⟩ = some (.bool b.he) := Box.cells bb 3; have x4 : X.cell? ⟨b8, 4, none⟩ = some (.slice B1 b.es.length b1) := Box.cells bb 4; have x5 : X.cell? ⟨b8, 5, none⟩ = some (.slice B2 b.us.length b2) := Box.cells bb 5; have z0 : X.cell? ⟨w.heap.size + 1, 0, none⟩ = some (.int .i64 t.u) := Box.cells bt 0; have z1 : X.cell? ⟨w.heap.size + 1, 1, none⟩ = some (.slice A t.gs.length c) := Box.cells bt 1; have z2 : X.cell? ⟨w.heap.size + 1, 2, none⟩ = some (.int .i64 t.p) := Box.cells bt 2; have l7 := ba.lt; have l8 := bb.lt; have l1 := bt.lt; have HB0 := Lib.hid hb; have BA := Lib.hid (fun W hW => ba.below (w' := W) hW); have BB := Lib.hid (fun W hW => bb.below (w' := W) hW); have BT := Lib.hid (fun W hW => bt.below (w' := W) hW); clear hb ba bb bt hX hf
  go_wp2
  (refine wp_region_flow [false, true, false, true, false, true, true, true, true, true] [⟨1, [], DscO b, false⟩, ⟨3, [], TokO t, false⟩, ⟨5, [1, 3], (RowT w.heap.size L f0), false⟩, ⟨6, [5], (RowT w.heap.size L f0), false⟩, ⟨7, [6], (RowS w.heap.size L), false⟩, ⟨8, [6], EqV (.int .i64 f0), false⟩, ⟨9, [7], (RowS w.heap.size L), false⟩] (by kernel_rfl) (by kernel_rfl) (by kernel_rfl) (by kernel_rfl) ?_; simp only [pick, List.length_cons, List.length_nil, List.drop_succ_cons, List.drop_zero, Nat.zero_add, Nat.reduceAdd]; apply Exists.intro; refine ⟨fun X hX => ?_, ?_⟩; (focus (obtain ⟨hcX, hfX⟩ := bcell hX; have hgX := regcell hX; have hsX := hX.size; (try simp only [World.size_alloc] at hsX); (repeat (go_big_quiet_step ((first | fail)))); exact wpQuiet_nil rfl)); simp only [wpND, told, toldAll, List.contains_cons, List.contains_nil, List.mem_cons, List.not_mem_nil, forall_eq_or_imp, false_implies, implies_true, and_true, Nat.reduceBEq, BEq.rfl, beq_self_eq_true, Bool.or_false, Bool.false_or, Bool.true_or, Bool.or_true, Bool.false_eq_true, if_true, if_false, true_implies, dstAt, List.getElem?_toArray, List.getElem?_cons_succ, List.getElem?_cons_zero, Option.some.injEq, forall_eq', Option.bind_some, Act.put, List.setIfInBounds_toArray, List.set_cons_succ, List.set_cons_zero])
  refine ⟨DscO.stable, fun X hX => ?_, fun v1 => ⟨TokO.stable, fun X hX => ?_, fun v3 => ⟨RowT.stable, fun X hX hf => ?_, fun v5 => ⟨RowT.stable, fun X hX hf => ?_, fun v6 => ⟨RowS.stable, fun X hX hf => ?_, fun v7 => ⟨EqV.stable, fun X hX hf => ?_, fun v8 => ⟨RowS.stable, fun X hX hf => ?_, fun v9 => fun X hX hf => ?_⟩⟩⟩⟩⟩⟩⟩
  · exact leaf_dsc (c1 := b1) (c2 := b2) (by kernel_rfl) (by omega) (by omega) (HDB.out X (bel_trans HB0.out hX)).r1 (HDB.out X (bel_trans HB0.out hX)).r2
  · exact leaf_tok (c := c) (by kernel_rfl) (by omega) (HDA.out X (bel_trans HB0.out hX)).r3
  · (obtain ⟨⟨C, k, rfl, g5⟩, D1, D2, n1, n2, rfl, g3, g4⟩ := hf; refine leaves_call' (f := 34) (args := #[dscV b D1 D2 n1 n2, tokV t C k, .int .i64 m]) (by kernel_rfl) ((HM2.out D1 D2 C n1 n2 k X ((HDB.out X (bel_trans HB0.out hX)).copies (Below.refl _ _) g3 g4 g5)).mono ?_); rintro e W1 ⟨Ao, co, rfl, ho, hb⟩; exact ⟨_, rfl, hb, Ao, co, rfl, ownsRow_mono ho (bel_trans HB0.out hX).size⟩)
  · obtain ⟨Ao, co, rfl, ho⟩ := hf; exact leaves_pure' (by kernel_rfl) ⟨Ao, co, rfl, ho⟩
  · obtain ⟨Ao, co, rfl, ho⟩ := hf; exact leaves_pure' (by kernel_rfl) ⟨Ao, co, rfl, ho⟩
  · obtain ⟨Ao, co, rfl, ho⟩ := hf; exact leaves_pure' (by kernel_rfl) rfl
  · obtain ⟨Ao, co, rfl, ho⟩ := hf; exact leaves_pure' (by kernel_rfl) ⟨Ao, co, rfl, ho⟩
  obtain ⟨h8, h7, _⟩ := id hf
  obtain ⟨Ao, co, rfl, ho⟩ := h8
  unfold EqV at h7
  subst h7
  have OL := Lib.hid ho
  clear ho HM1 HM2
  have hb := bel_trans HB0.out hX; have ba := BA.out X hX; have bb := BB.out X hX; have bt := BT.out X hX; clear y0 y1 y2 y3 y4 y5 x0 x1 x2 x3 x4 x5 z0 z1 z2 l7 l8 l1 HB0 BA BB BT; have y0 : X.cell? ⟨b7, 0, none⟩ = some (.int .i64 a.o) := Box.cells ba 0; have y1 : X.cell? ⟨b7, 1, none⟩ = some (.int .i64 a.g) := Box.cells ba 1; have y2 : X.cell? ⟨b7, 2, none⟩ = some (.bool a.pr) := Box.cells ba 2; have y3 : X.cell? ⟨b7, 3, none⟩ = some (.bool a.he) := Box.cells ba 3; have y4 : X.cell? ⟨b7, 4, none⟩ = some (.slice A1 a.es.length a1) := Box.cells ba 4; have y5 : X.cell? ⟨b7, 5, none⟩ = some (.slice A2 a.us.length a2) := Box.cells ba 5; have x0 : X.cell? ⟨b8, 0, none⟩ = some (.int .i64 b.o) := Box.cells bb 0; have x1 : X.cell? ⟨b8, 1, none⟩ = some (.int .i64 b.g) := Box.cells bb 1; have x2 : X.cell? ⟨b8, 2, none⟩ = some (.bool b.pr) := Box.cells bb 2; have x3 : X.cell? ⟨b8, 3, none⟩ = some (.bool b.he) := Box.cells bb 3; have x4 : X.cell? ⟨b8, 4, none⟩ = some (.slice B1 b.es.length b1) := Box.cells bb 4; have x5 : X.cell? ⟨b8, 5, none⟩ = some (.slice B2 b.us.length b2) := Box.cells bb 5; have z0 : X.cell? ⟨w.heap.size + 1, 0, none⟩ = some (.int .i64 t.u) := Box.cells bt 0; have z1 : X.cell? ⟨w.heap.size + 1, 1, none⟩ = some (.slice A t.gs.length c) := Box.cells bt 1; have z2 : X.cell? ⟨w.heap.size + 1, 2, none⟩ = some (.int .i64 t.p) := Box.cells bt 2; have l7 := ba.lt; have l8 := bb.lt; have l1 := bt.lt; have HB0 := Lib.hid hb; have BA := Lib.hid (fun W hW => ba.below (w' := W) hW); have BB := Lib.hid (fun W hW => bb.below (w' := W) hW); have BT := Lib.hid (fun W hW => bt.below (w' := W) hW); clear hb ba bb bt hX hf
  go_upto_if 51 with ((go_at_call 30; refine (HE1.out _ HB0.out).mono ?_; rintro e V3 ⟨rfl, hbV3⟩; obtain ⟨hcV3, hfV3⟩ := bcell hbV3))
  have k7 : b7 < V3.heap.size := by have := hbV3.size; omega
  have k8 : b8 < V3.heap.size := by have := hbV3.size; omega
  have k1 : w.heap.size + 1 < V3.heap.size := by have := hbV3.size; omega
  have hb3 := bel_trans HB0.out hbV3
  have HB3 := Lib.hid hb3
  have HV3 := Lib.hid hbV3
  go_cut [13] (fun s13 wx => s13 = .int .i64 cc ∧ Below V3.heap.size V3 wx)
  case first =>
    by_cases h0 : da = 0
    · have hc : cc = eb := by rw [HC0.out, if_neg (by simpa using h0)]
      subst h0
      subst hc
      go_wp2_with (go_at_call 16; refine (HE2.out _ HB3.out).mono ?_; rintro e V4 ⟨rfl, hbV4⟩; obtain ⟨hcV4, hfV4⟩ := bcell hbV4)
      go_meet
      exact ⟨rfl, hbV4⟩
    · have hc : cc = da := by rw [HC0.out, if_pos h0]
      have h0' : (da == 0) = false := by simpa using h0
      subst hc
      go_wp2
      go_meet
      exact ⟨rfl, Below.refl _ _⟩
  case rest =>
  obtain ⟨rfl, hbc⟩ := hcut
  rename World => Y4
  have ba := BA.out Y4 (bel_trans HV3.out hbc)
  have bb := BB.out Y4 (bel_trans HV3.out hbc)
  have bt := BT.out Y4 (bel_trans HV3.out hbc)
  have hX := bel_trans HV3.out hbc
  have hb := bel_trans HB0.out hX
  clear hbc hb3 hbV3 hcV3 hfV3 k7 k8 k1 y0 y1 y2 y3 y4 y5 x0 x1 x2 x3 x4 x5 z0 z1 z2 l7 l8 l1
  have y0 : Y4.cell? ⟨b7, 0, none⟩ = some (.int .i64 a.o) := Box.cells ba 0; have y1 : Y4.cell? ⟨b7, 1, none⟩ = some (.int .i64 a.g) := Box.cells ba 1; have y2 : Y4.cell? ⟨b7, 2, none⟩ = some (.bool a.pr) := Box.cells ba 2; have y3 : Y4.cell? ⟨b7, 3, none⟩ = some (.bool a.he) := Box.cells ba 3; have y4 : Y4.cell? ⟨b7, 4, none⟩ = some (.slice A1 a.es.length a1) := Box.cells ba 4; have y5 : Y4.cell? ⟨b7, 5, none⟩ = some (.slice A2 a.us.length a2) := Box.cells ba 5
  have x0 : Y4.cell? ⟨b8, 0, none⟩ = some (.int .i64 b.o) := Box.cells bb 0; have x1 : Y4.cell? ⟨b8, 1, none⟩ = some (.int .i64 b.g) := Box.cells bb 1; have x2 : Y4.cell? ⟨b8, 2, none⟩ = some (.bool b.pr) := Box.cells bb 2; have x3 : Y4.cell? ⟨b8, 3, none⟩ = some (.bool b.he) := Box.cells bb 3; have x4 : Y4.cell? ⟨b8, 4, none⟩ = some (.slice B1 b.es.length b1) := Box.cells bb 4; have x5 : Y4.cell? ⟨b8, 5, none⟩ = some (.slice B2 b.us.length b2) := Box.cells bb 5
  have z0 : Y4.cell? ⟨w.heap.size + 1, 0, none⟩ = some (.int .i64 t.u) := Box.cells bt 0; have z1 : Y4.cell? ⟨w.heap.size + 1, 1, none⟩ = some (.slice A t.gs.length c) := Box.cells bt 1; have z2 : Y4.cell? ⟨w.heap.size + 1, 2, none⟩ = some (.int .i64 t.p) := Box.cells bt 2
  have l7 := ba.lt
  have l8 := bb.lt
  have l1 := bt.lt
  have OL := Lib.hid (ownsRow_below OL.out hX)
  have HBC := Lib.hid hb
  clear ba bb bt hX hb
  go_upto_region 11 with fail
  go_cut [80] (fun s80 wx => s80 = .bool false ∧ Below Y4.heap.size Y4 wx)
  case first =>
    by_cases h0 : cc = 0
    · have hz := mayE_zero (H1.out.symm.trans h0)
      have hd1 := dtO_of hz.1
      have hd2 := dtO_of hz.2
      have HRM := Lib.hid (fun W (hW : Below w.heap.size w W) => refMayDelete_any a b t A1 A2 B1 B2 A a1 a2 b1 b2 c W (HDA.out W hW) (HDB.out W hW) hd1 hd2)
      have hi : is0 = mayI a b t := by rw [H2.out, if_pos (H1.out.symm.trans h0)]
      rw [← hi] at HRM
      unfold dscV tokV at HRM
      subst h0
      clear hz hd1 hd2 hi
      go_wp2_with (go_at_call 35; refine (HRM.out _ HBC.out).mono ?_; rintro e V4 ⟨rfl, hbV4⟩; obtain ⟨hcV4, hfV4⟩ := bcell hbV4)
      go_meet
      exact ⟨rfl, hbV4⟩
    · have h0' : (cc != 0) = true := by simpa using h0
      have h0'' : (cc == 0) = false := by simpa using h0
      obtain rfl : is0 = false := by rw [H2.out, if_neg (fun h => h0 (H1.out.trans h))]
      go_wp2
      go_meet
      exact ⟨rfl, Below.refl _ _⟩
  case rest =>
  obtain ⟨rfl, hV3⟩ := hcut
  have hb4 := bel_trans HBC.out hV3
  obtain ⟨hcV3, hfV3⟩ := bcell hV3
  have ls3 : b8 < wc.heap.size := by have := hV3.size; omega
  have lt3 : w.heap.size + 1 < wc.heap.size := by have := hV3.size; omega
  by_cases h0 : eb = 0
  · have hfk : f0 = km := by rw [HF0.out, if_neg (by simpa using h0)]
    by_cases hm : km = 0
    · have hz := us_ok (H5.out.symm.trans h0)
      have HAU := Lib.hid (fun W (hW : Below w.heap.size w W) => refAudited_any b t m B1 B2 A b1 b2 c W (HDB.out W hW) hz)
      have hl : L = audP b t m := by rw [H4.out, if_pos (H3.out.symm.trans (hfk.trans hm))]
      have LM := Lib.hid (show L.length ≤ maxLen by rw [hl]; have := audN_len t m b.us b.us.length; unfold maxLen audP; omega)
      rw [← hl] at HAU
      unfold dscV tokV at HAU
      subst hm
      subst h0
      subst hfk
      clear hz hl
      go_wp2_with (first | (go_at_call 16; refine (HE2.out _ hb4).mono ?_; rintro e V4 ⟨rfl, hV4⟩; obtain ⟨hcV4, hfV4⟩ := bcell hV4; have ls4 : b8 < V4.heap.size := (by have := hV4.size; omega); have lt4 : w.heap.size + 1 < V4.heap.size := (by have := hV4.size; omega); have hb := bel_trans hb4 hV4) | (go_at_call 36; refine (HAU.out _ hb).mono ?_; rintro e V5 ⟨AD, cD, rfl, oD, hV5⟩; have OL5 := Lib.hid (ownsRow_below OL.out (bel_trans hV3 (bel_trans hV4 hV5))); have OD5 := Lib.hid oD; have hb := bel_trans hb hV5; clear oD) | (go_at_call 18; refine (Ints_any Ao AD co cD L L V5 LM.out LM.out (Rd.of_own OL5.out) (Rd.of_own OD5.out)).mono ?_; rintro e V6 ⟨he6, hV6⟩; obtain rfl := he6.trans (by rw [decide_eq_true rfl]); clear he6; have hb := bel_trans hb hV6) | (go_at_call 20; refine (HMK.out _).mono ?_; rintro e w' ⟨rfl, rfl⟩))
      go_ret
      exact ⟨rfl, hb⟩
    · have hm' : (km != 0) = true := by simpa using hm
      obtain rfl : L = [] := by rw [H4.out, if_neg (fun h => hm (hfk.symm.trans (H3.out.trans h)))]
      subst h0
      subst hfk
      go_wp2_with (first | (go_at_call 16; refine (HE2.out _ hb4).mono ?_; rintro e V4 ⟨rfl, hV4⟩; obtain ⟨hcV4, hfV4⟩ := bcell hV4; have ls4 : b8 < V4.heap.size := (by have := hV4.size; omega); have lt4 : w.heap.size + 1 < V4.heap.size := (by have := hV4.size; omega); have hb := bel_trans hb4 hV4) | (go_at_call 20; refine (HMK.out _).mono ?_; rintro e w' ⟨rfl, rfl⟩))
      go_ret
      exact ⟨rfl, hb⟩
  · have h0' : (eb != 0) = true := by simpa using h0
    have h0'' : (eb == 0) = false := by simpa using h0
    have hfk : f0 = eb := by rw [HF0.out, if_pos h0]
    obtain rfl : L = [] := by rw [H4.out, if_neg (fun h => h0 (hfk.symm.trans (H3.out.trans h)))]
    subst hfk
    go_wp2_with (first | (go_at_call 16; refine (HE2.out _ hb4).mono ?_; rintro e V4 ⟨rfl, hV4⟩; obtain ⟨hcV4, hfV4⟩ := bcell hV4; have ls4 : b8 < V4.heap.size := (by have := hV4.size; omega); have lt4 : w.heap.size + 1 < V4.heap.size := (by have := hV4.size; omega); have hb := bel_trans hb4 hV4) | (go_at_call 20; refine (HMK.out _).mono ?_; rintro e w' ⟨rfl, rfl⟩))
    go_ret
    exact ⟨rfl, hb⟩
end Go.Proofs.YtanicpgmbhfipaaGreatDoor
