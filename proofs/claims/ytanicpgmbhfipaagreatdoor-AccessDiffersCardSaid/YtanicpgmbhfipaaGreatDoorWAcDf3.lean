/-
  Chapter 17: the law AccessDiffers: where all is right.
-/
import Derived.Test.YtanicpgmbhfipaaGreatDoorAcDif2
namespace Go.Proofs.YtanicpgmbhfipaaGreatDoor
set_option linter.unusedVariables false
set_option linter.unusedSimpArgs false
open Go.RowKit Go.Sort

set_option maxRecDepth 100000 in
set_option maxHeartbeats 8000000 in
theorem wAcDif_ok (a : DscP) (A1 A2 : Option Addr) (a1 a2 : Nat) (b : DscP) (B1 B2 : Option Addr) (b1 b2 : Nat) (AW : Option Addr) (cw : Nat) (who : List Int) (w : World) (hra1 : Rd w w.heap.size A1 (acesV a.es)) (hra2 : Rd w w.heap.size A2 (acesV a.us)) (hrb1 : Rd w w.heap.size B1 (acesV b.es)) (hrb2 : Rd w w.heap.size B2 (acesV b.us)) (hwl : who.length ≤ maxLen) (hr3 : Rd w w.heap.size AW (who.map (.int .i64))) (hg : GrT w) (hfe : fewD a = true ∧ fewD b = true ∧ ¬ 7 < who.length) (hq : whoE who = 0) (hd : dscE a = 0 ∧ dscE b = 0) :
    Calls Tryz.prog 5 #[dscV a A1 A2 a1 a2, dscV b B1 B2 b1 b2, .slice AW who.length cw] w fun e w' => e = .returned (.bool true) ∧ Below w.heap.size w w' := by
  unfold maxLen at hwl
  have HD0 := Lib.hid hd
  clear hd
  have HW := Lib.hid (fun W (hW : Below w.heap.size w W) => awake17_any W (hg.below hW))
  have bA := (Box.new w (dscC a A1 A2 a1 a2) 24).old (.cells (dscC b B1 B2 b1 b2) 24)
  have bB := Box.new (w.alloc (.cells (dscC a A1 A2 a1 a2) 24)) (dscC b B1 B2 b1 b2) 24
  rw [World.size_alloc] at bB
  have BA := Lib.hid (fun W hW => bA.below (w' := W) hW)
  have BB := Lib.hid (fun W hW => bB.below (w' := W) hW)
  unfold dscC at BA BB
  have HF1 := Lib.hid (fun W => Few_any a A1 A2 a1 a2 W)
  have HF2 := Lib.hid (fun W => Few_any b B1 B2 b1 b2 W)
  obtain ⟨fa, hfa⟩ : ∃ fw, fw = fewD a := ⟨_, rfl⟩
  obtain ⟨fb, hfb⟩ : ∃ fw, fw = fewD b := ⟨_, rfl⟩
  rw [← hfa] at HF1
  rw [← hfb] at HF2
  unfold dscV at HF1 HF2
  clear bA bB
  obtain ⟨hfe1, hfe2, hw7⟩ := hfe
  obtain rfl : fa = true := hfa.trans hfe1
  obtain rfl : fb = true := hfb.trans hfe2
  have hla : a.es.length ≤ 20 ∧ a.us.length ≤ 20 := by
    unfold fewD at hfa
    simp at hfa
    omega
  have hlb : b.es.length ≤ 20 ∧ b.us.length ≤ 20 := by
    unfold fewD at hfb
    simp at hfb
    omega
  have hdd : DD a b who A1 A2 B1 B2 AW w := ⟨by omega, by omega, by omega, by omega, by omega, hra1, hra2, hrb1, hrb2, hr3, hg⟩
  have HDD := Lib.hid (fun W (hW : Below w.heap.size w W) => hdd.below hW)
  clear hra1 hra2 hrb1 hrb2 hr3 hg hfa hfb hdd hwl
  obtain ⟨we, hwe⟩ : ∃ e, e = whoE who := ⟨_, rfl⟩
  obtain ⟨da, hda⟩ : ∃ e, e = dscE a := ⟨_, rfl⟩
  obtain ⟨db, hdb⟩ : ∃ e, e = dscE b := ⟨_, rfl⟩
  obtain ⟨⟨T1, n1, e1⟩, hR1⟩ : ∃ r, r = cmpR xorF a b who := ⟨_, rfl⟩
  obtain ⟨⟨T2, n2, e2⟩, hR2⟩ : ∃ r, r = cmpR moreF a b who := ⟨_, rfl⟩
  obtain ⟨TL, hTL⟩ : ∃ L, L = (if whoE who = 0 then toksP who else []) := ⟨_, rfl⟩
  have HCI := Lib.hid (fun W (hW : Below w.heap.size w W) => CopyInts_it AW cw who W (by omega) (HDD.out W hW).r3)
  have HTO := Lib.hid (fun A c W hc hcm hr => TokensOf_any A c who W (by omega) hc hcm hr)
  have HD1 := Lib.hid (fun C1 C2 D1 D2 C k1 k2 n1 n2 k W h hc hcm => DifferenceOf_any a b who C1 C2 D1 D2 C k1 k2 n1 n2 k W h hc hcm)
  have HM1 := Lib.hid (fun C1 C2 D1 D2 C k1 k2 n1 n2 k W h hc hcm => MoreIn_any a b who C1 C2 D1 D2 C k1 k2 n1 n2 k W h hc hcm)
  have HWE := Lib.hid (fun W (hW : Below w.heap.size w W) => WhoErr_any AW cw who W (by omega) (HDD.out W hW).r3)
  have HDA := Lib.hid (fun W (hW : Below w.heap.size w W) => refDescErr_any a A1 A2 a1 a2 W (by omega) (by omega) (HDD.out W hW).ra1 (HDD.out W hW).ra2)
  have HDB := Lib.hid (fun W (hW : Below w.heap.size w W) => refDescErr_any b B1 B2 b1 b2 W (by omega) (by omega) (HDD.out W hW).rb1 (HDD.out W hW).rb2)
  rw [← hTL, ← hwe] at HTO
  rw [← hR1] at HD1
  rw [← hR2] at HM1
  rw [← hwe] at HWE
  rw [← hda] at HDA
  rw [← hdb] at HDB
  have H1 := Lib.hid hwe
  have H2 := Lib.hid hda
  have H3 := Lib.hid hdb
  have H4 := Lib.hid hR1
  have H5 := Lib.hid hR2
  have H6 := Lib.hid hTL
  unfold dscV at HDA HDB
  clear hwe hda hdb hR1 hR2 hTL
  unfold dscV
  go_enter Tryz.func5, Tryz.ntmps5
  go_wp2_with (first | (go_at_call 9; refine (HW.out _ (bel_alloc (bel_alloc (Below.refl _ _) _) _)).mono ?_; rintro e V ⟨rfl, hV⟩; have ba := BA.out V hV; have bb := BB.out V hV; have hb := bel_trans (bel_alloc (bel_alloc (Below.refl _ w) _) _) hV; have y0 : V.cell? ⟨w.heap.size, 0, none⟩ = some (.int .i64 a.o) := Box.cells ba 0; have y1 : V.cell? ⟨w.heap.size, 1, none⟩ = some (.int .i64 a.g) := Box.cells ba 1; have y2 : V.cell? ⟨w.heap.size, 2, none⟩ = some (.bool a.pr) := Box.cells ba 2; have y3 : V.cell? ⟨w.heap.size, 3, none⟩ = some (.bool a.he) := Box.cells ba 3; have y4 : V.cell? ⟨w.heap.size, 4, none⟩ = some (.slice A1 a.es.length a1) := Box.cells ba 4; have y5 : V.cell? ⟨w.heap.size, 5, none⟩ = some (.slice A2 a.us.length a2) := Box.cells ba 5; have x0 : V.cell? ⟨w.heap.size + 1, 0, none⟩ = some (.int .i64 b.o) := Box.cells bb 0; have x1 : V.cell? ⟨w.heap.size + 1, 1, none⟩ = some (.int .i64 b.g) := Box.cells bb 1; have x2 : V.cell? ⟨w.heap.size + 1, 2, none⟩ = some (.bool b.pr) := Box.cells bb 2; have x3 : V.cell? ⟨w.heap.size + 1, 3, none⟩ = some (.bool b.he) := Box.cells bb 3; have x4 : V.cell? ⟨w.heap.size + 1, 4, none⟩ = some (.slice B1 b.es.length b1) := Box.cells bb 4; have x5 : V.cell? ⟨w.heap.size + 1, 5, none⟩ = some (.slice B2 b.us.length b2) := Box.cells bb 5; have l0 := ba.lt; have l1 := bb.lt) | (go_at_call 23; (with_reducible refine (HF1.out _).mono ?_); rintro e V2 ⟨rfl, hV2⟩; obtain ⟨hcV2, hfV2⟩ := bcell hV2; have hb := bel_trans hb hV2; have k1 : w.heap.size + 1 < V2.heap.size := (by have := hV2.size; omega)) | (go_at_call 23; (with_reducible refine (HF2.out _).mono ?_); rintro e X ⟨rfl, hV3⟩; have hb := bel_trans hb hV3) | (go_at_call 22; refine (HCI.out _ hb).mono ?_; rintro e U ⟨Cw, kw, rfl, how, hU⟩; have hb := bel_trans hb hU) | (go_at_call 24; refine (HTO.out Cw kw _ (ownsRow_cap how).1 (ownsRow_capmax how) (Rd.of_own how)).mono ?_; rintro e U2 ⟨ps, Bp, kp, rfl, hps, hop, hip, hU2⟩; have hb := bel_trans hb hU2))
  have hBV := bel_trans hV (bel_trans hV2 (bel_trans hV3 (bel_trans hU hU2)))
  replace ba := BA.out U2 hBV
  replace bb := BB.out U2 hBV
  clear y0 y1 y2 y3 y4 y5 x0 x1 x2 x3 x4 x5 l0 l1 k1 hcV2 hfV2
  have y0 : U2.cell? ⟨w.heap.size, 0, none⟩ = some (.int .i64 a.o) := Box.cells ba 0; have y1 : U2.cell? ⟨w.heap.size, 1, none⟩ = some (.int .i64 a.g) := Box.cells ba 1; have y2 : U2.cell? ⟨w.heap.size, 2, none⟩ = some (.bool a.pr) := Box.cells ba 2; have y3 : U2.cell? ⟨w.heap.size, 3, none⟩ = some (.bool a.he) := Box.cells ba 3; have y4 : U2.cell? ⟨w.heap.size, 4, none⟩ = some (.slice A1 a.es.length a1) := Box.cells ba 4; have y5 : U2.cell? ⟨w.heap.size, 5, none⟩ = some (.slice A2 a.us.length a2) := Box.cells ba 5
  have x0 : U2.cell? ⟨w.heap.size + 1, 0, none⟩ = some (.int .i64 b.o) := Box.cells bb 0; have x1 : U2.cell? ⟨w.heap.size + 1, 1, none⟩ = some (.int .i64 b.g) := Box.cells bb 1; have x2 : U2.cell? ⟨w.heap.size + 1, 2, none⟩ = some (.bool b.pr) := Box.cells bb 2; have x3 : U2.cell? ⟨w.heap.size + 1, 3, none⟩ = some (.bool b.he) := Box.cells bb 3; have x4 : U2.cell? ⟨w.heap.size + 1, 4, none⟩ = some (.slice B1 b.es.length b1) := Box.cells bb 4; have x5 : U2.cell? ⟨w.heap.size + 1, 5, none⟩ = some (.slice B2 b.us.length b2) := Box.cells bb 5
  have l0 := ba.lt
  have l1 := bb.lt
  have HBU := Lib.hid hb
  have HOP := Lib.hid hop
  have HIP := Lib.hid hip
  have HPS := Lib.hid hps
  have BA := Lib.hid (fun W hW => ba.below (w' := W) hW)
  have BB := Lib.hid (fun W hW => bb.below (w' := W) hW)
  clear hBV hV hV2 hV3 hU hU2 how hop hip hps hb ba bb HF1 HF2 HCI HTO HW
  (refine wp_region_flowS (BoxesO U2.heap.size 27) [false, true, false, true, false, true, true, true, true, true, true, true] [⟨1, [], DscW U2.heap.size a, false⟩, ⟨3, [], DscW U2.heap.size b, false⟩, ⟨5, [], IntsW U2.heap.size who, false⟩, ⟨6, [1, 3, 5], DifW U2.heap.size T1 [.int .i64 e1], false⟩, ⟨7, [6], DifW U2.heap.size T1 [.int .i64 e1], false⟩, ⟨8, [7], TokW U2.heap.size T1, false⟩, ⟨9, [7], IsV (.int .i64 e1), false⟩, ⟨10, [], fun _ => AtBox U2.heap.size 27 3, false⟩, ⟨11, [8, 10], AwBox 9 52 27, true⟩] (by kernel_rfl) (by kernel_rfl) (by kernel_rfl) (by simp) ?_; simp only [pick, List.length_cons, List.length_nil, List.drop_succ_cons, List.drop_zero, Nat.zero_add, Nat.reduceAdd]; apply Exists.intro; refine ⟨fun X hX => ?_, ?_⟩; (focus (have hgX := regcellB hX; have hsX := hX.size; (try simp only [World.size_alloc] at hsX); (repeat (go_big_quiet_step ((first | fail)))); exact wpQuiet_nil rfl)); simp only [wpNO, told, toldAll, List.contains_cons, List.contains_nil, List.mem_cons, List.not_mem_nil, forall_eq_or_imp, false_implies, implies_true, and_true, Nat.reduceBEq, BEq.rfl, beq_self_eq_true, Bool.or_false, Bool.false_or, Bool.true_or, Bool.or_true, Bool.false_eq_true, if_true, if_false, true_implies, dstAt, List.getElem?_toArray, List.getElem?_cons_succ, List.getElem?_cons_zero, Option.some.injEq, forall_eq', Option.bind_some, Act.put, List.setIfInBounds_toArray, List.set_cons_succ, List.set_cons_zero])
  refine ⟨⟨DscW.stable _, DscW.grw _, fun _ _ _ h => h⟩, fun X hX => ?_, fun v1 => ⟨⟨DscW.stable _, DscW.grw _, fun _ _ _ h => h⟩, fun X hX => ?_, fun v3 => ⟨⟨IntsW.stable _, IntsW.grw _, fun _ _ _ h => h⟩, fun X hX => ?_, fun v5 => ⟨⟨DifW.stable _, DifW.grw _, fun _ _ _ _ h => h⟩, fun X hX hf => ?_, fun v6 => ⟨⟨DifW.stable _, DifW.grw _, fun _ _ _ _ h => h⟩, fun X hX hf => ?_, fun v7 => ⟨⟨TokW.stable _, TokW.grw _, fun _ _ _ _ h => h⟩, fun X hX hf => ?_, fun v8 => ⟨⟨fun v X X' h _ => h, fun v X X' h _ => h, fun _ _ _ _ h => h⟩, fun X hX hf => ?_, fun v9 => ⟨⟨AtBox.stable, AtBox.grw, fun _ _ _ h => h⟩, fun X hX => ?_, fun v10 => ⟨⟨AwBox.stable _, fun h => (by cases h), fun g' v X hg h => ?_⟩, fun X hX hcalm hf => ?_, fun v11 => fun X hX hf => ?_⟩⟩⟩⟩⟩⟩⟩⟩⟩
  · exact .inl (leafW_dsc (c1 := a1) (c2 := a2) (by kernel_rfl) hX.size (by omega) (by omega) (HDD.out X (BoxesO.below hX HBU.out HBU.out.size)).ra1 (HDD.out X (BoxesO.below hX HBU.out HBU.out.size)).ra2)
  · exact .inl (leafW_dsc (c1 := b1) (c2 := b2) (by kernel_rfl) hX.size (by omega) (by omega) (HDD.out X (BoxesO.below hX HBU.out HBU.out.size)).rb1 (HDD.out X (BoxesO.below hX HBU.out HBU.out.size)).rb2)
  · exact .inl (leafW_ints (c := cw) (by kernel_rfl) hX.size (by omega) (HDD.out X (BoxesO.below hX HBU.out HBU.out.size)).r3)
  · obtain ⟨⟨Ci, ki, rfl, ho3⟩, ⟨D1, D2, m1, m2, rfl, g3, g4⟩, C1, C2, k1, k2, rfl, g1, g2⟩ := hf
    refine .inl (leaves_call' (f := 25) (args := #[dscV a C1 C2 k1 k2, dscV b D1 D2 m1 m2, .slice Ci who.length ki]) (by kernel_rfl) ((HD1.out C1 C2 D1 D2 Ci k1 k2 m1 m2 ki X ⟨by omega, by omega, by omega, by omega, by omega, Rd.of_own g1, Rd.of_own g2, Rd.of_own g3, Rd.of_own g4, Rd.of_own ho3, (HDD.out X (BoxesO.below hX HBU.out HBU.out.size)).gr⟩ (ownsRow_cap ho3).1 (ownsRow_capmax ho3)).mono ?_))
    rintro e W1 ⟨A, c, rfl, ho, hb⟩
    exact ⟨_, rfl, hb, A, c, rfl, ownsRow_mono ho hX.size⟩
  · obtain ⟨A, c, rfl, ho⟩ := hf; exact .inl (leaves_pure' (by kernel_rfl) ⟨A, c, rfl, ho⟩)
  · obtain ⟨A, c, rfl, ho⟩ := hf; exact .inl (leaves_pure' (by kernel_rfl) ⟨A, c, rfl, ho⟩)
  · obtain ⟨A, c, rfl, ho⟩ := hf; exact .inl (leaves_pure' (v := .int .i64 e1) (by kernel_rfl) rfl)
  · exact .inl (leaves_alloc' (v := .pointer (some ⟨X.heap.size, 0, none⟩)) (obj := .cells #[.int .i64 0, .slice none 0 0, .int .i64 0] 27) (by kernel_rfl) ⟨X.heap.size, _, rfl, hX.size, rfl, heap_alloc_new _ _⟩)
  · obtain ⟨b', cs, h1, h2, h3⟩ := h
    replace h1 : v10 = _ := h1
    replace h2 : v8 = _ := h2
    exact ⟨b', cs, by simp [Act.eval, hg.2, h1], by simp [Act.eval, hg.1, h2], h3⟩
  · obtain ⟨⟨bx, cs0, rfl, hbx, hcs, hbox⟩, A, c, rfl, ho⟩ := hf
    exact leaves_storeB U2.heap.size 27 (.tmp 9) (.tmp 52) rfl bx #[.int .i64 T1.u, .slice A T1.gs.length c, .int .i64 T1.p] rfl rfl 27 cs0 hbox hbx (by kernel_rfl) hcs (by kernel_rfl) (fun X' h => ⟨bx, _, rfl, rfl, h⟩)
  obtain ⟨⟨bx, cs, q1, q2, hbox⟩, _, q3, ⟨A5, c5, rfl, o5⟩, _⟩ := hf
  replace q1 : v10 = .pointer (some ⟨bx, 0, none⟩) := q1
  replace q2 : tokV T1 A5 c5 = .agg cs := q2
  replace q3 : v9 = .int .i64 e1 := q3
  unfold tokV at q2
  injection q2 with q2
  subst q1 q2 q3
  obtain ⟨X1, hX1⟩ : ∃ x, x = X := ⟨_, rfl⟩
  subst hX1
  have hbX := BoxesO.below hX (Below.refl _ U2) (Nat.le_refl _)
  have ba := BA.out X1 hbX
  have bb := BB.out X1 hbX
  clear y0 y1 y2 y3 y4 y5 x0 x1 x2 x3 x4 x5 l0 l1
  have y0 : X1.cell? ⟨w.heap.size, 0, none⟩ = some (.int .i64 a.o) := Box.cells ba 0; have y1 : X1.cell? ⟨w.heap.size, 1, none⟩ = some (.int .i64 a.g) := Box.cells ba 1; have y2 : X1.cell? ⟨w.heap.size, 2, none⟩ = some (.bool a.pr) := Box.cells ba 2; have y3 : X1.cell? ⟨w.heap.size, 3, none⟩ = some (.bool a.he) := Box.cells ba 3; have y4 : X1.cell? ⟨w.heap.size, 4, none⟩ = some (.slice A1 a.es.length a1) := Box.cells ba 4; have y5 : X1.cell? ⟨w.heap.size, 5, none⟩ = some (.slice A2 a.us.length a2) := Box.cells ba 5
  have x0 : X1.cell? ⟨w.heap.size + 1, 0, none⟩ = some (.int .i64 b.o) := Box.cells bb 0; have x1 : X1.cell? ⟨w.heap.size + 1, 1, none⟩ = some (.int .i64 b.g) := Box.cells bb 1; have x2 : X1.cell? ⟨w.heap.size + 1, 2, none⟩ = some (.bool b.pr) := Box.cells bb 2; have x3 : X1.cell? ⟨w.heap.size + 1, 3, none⟩ = some (.bool b.he) := Box.cells bb 3; have x4 : X1.cell? ⟨w.heap.size + 1, 4, none⟩ = some (.slice B1 b.es.length b1) := Box.cells bb 4; have x5 : X1.cell? ⟨w.heap.size + 1, 5, none⟩ = some (.slice B2 b.us.length b2) := Box.cells bb 5
  have l0 := ba.lt
  have l1 := bb.lt
  have HBX := Lib.hid (bel_trans HBU.out hbX)
  have HOP := Lib.hid (ownsRow_below HOP.out hbX)
  have HIP := Lib.hid (fun p hp => (HIP.out p hp).below hbX)
  have HBOX := Lib.hid hbox
  have HO5 := Lib.hid o5
  have BA := Lib.hid (fun W hW => ba.below (w' := W) hW)
  have BB := Lib.hid (fun W hW => bb.below (w' := W) hW)
  clear hX hbX ba bb hbox o5 HBU HD1
  go_wp2
  (refine wp_region_flowS (BoxesO X1.heap.size 27) [false, true, false, true, false, true, true, true, true, true, true, true, true, true] [⟨1, [], DscW X1.heap.size a, false⟩, ⟨3, [], DscW X1.heap.size b, false⟩, ⟨5, [], IntsW X1.heap.size who, false⟩, ⟨6, [1, 3, 5], DifW X1.heap.size T2 [.int .i64 n2, .int .i64 e2], false⟩, ⟨7, [6], DifW X1.heap.size T2 [.int .i64 n2, .int .i64 e2], false⟩, ⟨8, [7], TokW X1.heap.size T2, false⟩, ⟨9, [7], IsV (.int .i64 n2), false⟩, ⟨10, [7], IsV (.int .i64 e2), false⟩, ⟨11, [], fun _ => AtBox X1.heap.size 27 3, false⟩, ⟨12, [8, 11], AwBox 11 62 27, true⟩, ⟨13, [9], IsV (.int .i64 n2), false⟩] (by kernel_rfl) (by kernel_rfl) (by kernel_rfl) (by simp) ?_; simp only [pick, List.length_cons, List.length_nil, List.drop_succ_cons, List.drop_zero, Nat.zero_add, Nat.reduceAdd]; apply Exists.intro; refine ⟨fun X hX => ?_, ?_⟩; (focus (have hgX := regcellB hX; have hsX := hX.size; (try simp only [World.size_alloc] at hsX); (repeat (go_big_quiet_step ((first | fail)))); exact wpQuiet_nil rfl)); simp only [wpNO, told, toldAll, List.contains_cons, List.contains_nil, List.mem_cons, List.not_mem_nil, forall_eq_or_imp, false_implies, implies_true, and_true, Nat.reduceBEq, BEq.rfl, beq_self_eq_true, Bool.or_false, Bool.false_or, Bool.true_or, Bool.or_true, Bool.false_eq_true, if_true, if_false, true_implies, dstAt, List.getElem?_toArray, List.getElem?_cons_succ, List.getElem?_cons_zero, Option.some.injEq, forall_eq', Option.bind_some, Act.put, List.setIfInBounds_toArray, List.set_cons_succ, List.set_cons_zero])
  refine ⟨⟨DscW.stable _, DscW.grw _, fun _ _ _ h => h⟩, fun X hX => ?_, fun v1 => ⟨⟨DscW.stable _, DscW.grw _, fun _ _ _ h => h⟩, fun X hX => ?_, fun v3 => ⟨⟨IntsW.stable _, IntsW.grw _, fun _ _ _ h => h⟩, fun X hX => ?_, fun v5 => ⟨⟨DifW.stable _, DifW.grw _, fun _ _ _ _ h => h⟩, fun X hX hf => ?_, fun v6 => ⟨⟨DifW.stable _, DifW.grw _, fun _ _ _ _ h => h⟩, fun X hX hf => ?_, fun v7 => ⟨⟨TokW.stable _, TokW.grw _, fun _ _ _ _ h => h⟩, fun X hX hf => ?_, fun v8 => ⟨⟨fun v X X' h _ => h, fun v X X' h _ => h, fun _ _ _ _ h => h⟩, fun X hX hf => ?_, fun v9 => ⟨⟨fun v X X' h _ => h, fun v X X' h _ => h, fun _ _ _ _ h => h⟩, fun X hX hf => ?_, fun v10 => ⟨⟨AtBox.stable, AtBox.grw, fun _ _ _ h => h⟩, fun X hX => ?_, fun v11 => ⟨⟨AwBox.stable _, fun h => (by cases h), fun g' v X hg h => ?_⟩, fun X hX hcalm hf => ?_, fun v12 => ⟨⟨fun v X X' h _ => h, fun v X X' h _ => h, fun _ _ _ _ h => h⟩, fun X hX hf => ?_, fun v13 X hX hf => ?_⟩⟩⟩⟩⟩⟩⟩⟩⟩⟩⟩
  · exact .inl (leafW_dsc (c1 := a1) (c2 := a2) (by kernel_rfl) hX.size (by omega) (by omega) (HDD.out X (BoxesO.below hX HBX.out HBX.out.size)).ra1 (HDD.out X (BoxesO.below hX HBX.out HBX.out.size)).ra2)
  · exact .inl (leafW_dsc (c1 := b1) (c2 := b2) (by kernel_rfl) hX.size (by omega) (by omega) (HDD.out X (BoxesO.below hX HBX.out HBX.out.size)).rb1 (HDD.out X (BoxesO.below hX HBX.out HBX.out.size)).rb2)
  · exact .inl (leafW_ints (c := cw) (by kernel_rfl) hX.size (by omega) (HDD.out X (BoxesO.below hX HBX.out HBX.out.size)).r3)
  · obtain ⟨⟨Ci, ki, rfl, ho3⟩, ⟨D1, D2, m1, m2, rfl, g3, g4⟩, C1, C2, k1, k2, rfl, g1, g2⟩ := hf
    refine .inl (leaves_call' (f := 26) (args := #[dscV a C1 C2 k1 k2, dscV b D1 D2 m1 m2, .slice Ci who.length ki]) (by kernel_rfl) ((HM1.out C1 C2 D1 D2 Ci k1 k2 m1 m2 ki X ⟨by omega, by omega, by omega, by omega, by omega, Rd.of_own g1, Rd.of_own g2, Rd.of_own g3, Rd.of_own g4, Rd.of_own ho3, (HDD.out X (BoxesO.below hX HBX.out HBX.out.size)).gr⟩ (ownsRow_cap ho3).1 (ownsRow_capmax ho3)).mono ?_))
    rintro e W1 ⟨A, c, rfl, ho, hb⟩
    exact ⟨_, rfl, hb, A, c, rfl, ownsRow_mono ho hX.size⟩
  · obtain ⟨A, c, rfl, ho⟩ := hf; exact .inl (leaves_pure' (by kernel_rfl) ⟨A, c, rfl, ho⟩)
  · obtain ⟨A, c, rfl, ho⟩ := hf; exact .inl (leaves_pure' (by kernel_rfl) ⟨A, c, rfl, ho⟩)
  · obtain ⟨A, c, rfl, ho⟩ := hf; exact .inl (leaves_pure' (v := .int .i64 n2) (by kernel_rfl) rfl)
  · obtain ⟨A, c, rfl, ho⟩ := hf; exact .inl (leaves_pure' (v := .int .i64 e2) (by kernel_rfl) rfl)
  · exact .inl (leaves_alloc' (v := .pointer (some ⟨X.heap.size, 0, none⟩)) (obj := .cells #[.int .i64 0, .slice none 0 0, .int .i64 0] 27) (by kernel_rfl) ⟨X.heap.size, _, rfl, hX.size, rfl, heap_alloc_new _ _⟩)
  · obtain ⟨b', cs, h1, h2, h3⟩ := h
    replace h1 : v11 = _ := h1
    replace h2 : v8 = _ := h2
    exact ⟨b', cs, by simp [Act.eval, hg.2, h1], by simp [Act.eval, hg.1, h2], h3⟩
  · obtain ⟨⟨bx, cs0, rfl, hbx, hcs, hbox⟩, A, c, rfl, ho⟩ := hf
    exact leaves_storeB X1.heap.size 27 (.tmp 11) (.tmp 62) rfl bx #[.int .i64 T2.u, .slice A T2.gs.length c, .int .i64 T2.p] rfl rfl 27 cs0 hbox hbx (by kernel_rfl) hcs (by kernel_rfl) (fun X' h => ⟨bx, _, rfl, rfl, h⟩)
  · replace hf : _ = _ := hf; subst hf; exact .inl (leaves_pure' (v := .int .i64 n2) (by kernel_rfl) rfl)
  obtain ⟨q13, ⟨by_, cs, q1, q2, hbox⟩, _, q3, q4, ⟨A6, c6, rfl, o6⟩, _⟩ := hf
  replace q13 : v13 = .int .i64 n2 := q13
  replace q1 : v11 = .pointer (some ⟨by_, 0, none⟩) := q1
  replace q2 : tokV T2 A6 c6 = .agg cs := q2
  replace q3 : v10 = .int .i64 e2 := q3
  replace q4 : v9 = .int .i64 n2 := q4
  unfold tokV at q2
  injection q2 with q2
  subst q1 q2 q3 q4 q13
  obtain ⟨X2, hX2⟩ : ∃ x, x = X := ⟨_, rfl⟩
  subst hX2
  have hbX := BoxesO.below hX (Below.refl _ X1) (Nat.le_refl _)
  have ba := BA.out X2 hbX
  have bb := BB.out X2 hbX
  clear y0 y1 y2 y3 y4 y5 x0 x1 x2 x3 x4 x5 l0 l1
  have y0 : X2.cell? ⟨w.heap.size, 0, none⟩ = some (.int .i64 a.o) := Box.cells ba 0; have y1 : X2.cell? ⟨w.heap.size, 1, none⟩ = some (.int .i64 a.g) := Box.cells ba 1; have y2 : X2.cell? ⟨w.heap.size, 2, none⟩ = some (.bool a.pr) := Box.cells ba 2; have y3 : X2.cell? ⟨w.heap.size, 3, none⟩ = some (.bool a.he) := Box.cells ba 3; have y4 : X2.cell? ⟨w.heap.size, 4, none⟩ = some (.slice A1 a.es.length a1) := Box.cells ba 4; have y5 : X2.cell? ⟨w.heap.size, 5, none⟩ = some (.slice A2 a.us.length a2) := Box.cells ba 5
  have x0 : X2.cell? ⟨w.heap.size + 1, 0, none⟩ = some (.int .i64 b.o) := Box.cells bb 0; have x1 : X2.cell? ⟨w.heap.size + 1, 1, none⟩ = some (.int .i64 b.g) := Box.cells bb 1; have x2 : X2.cell? ⟨w.heap.size + 1, 2, none⟩ = some (.bool b.pr) := Box.cells bb 2; have x3 : X2.cell? ⟨w.heap.size + 1, 3, none⟩ = some (.bool b.he) := Box.cells bb 3; have x4 : X2.cell? ⟨w.heap.size + 1, 4, none⟩ = some (.slice B1 b.es.length b1) := Box.cells bb 4; have x5 : X2.cell? ⟨w.heap.size + 1, 5, none⟩ = some (.slice B2 b.us.length b2) := Box.cells bb 5
  have l0 := ba.lt
  have l1 := bb.lt
  have HBX2 := Lib.hid (bel_trans HBX.out hbX)
  have HOP := Lib.hid (ownsRow_below HOP.out hbX)
  have HIP := Lib.hid (fun p hp => (HIP.out p hp).below hbX)
  have HBOX := Lib.hid (HBOX.out.below hbX)
  have HBOY := Lib.hid hbox
  have HO5 := Lib.hid (ownsRow_below HO5.out hbX)
  have HO6 := Lib.hid o6
  have BA := Lib.hid (fun W hW => ba.below (w' := W) hW)
  have BB := Lib.hid (fun W hW => bb.below (w' := W) hW)
  clear hX hbX ba bb hbox o6 HBX HM1
  go_upto_region 9 with fail
  obtain ⟨X3, hX3⟩ : ∃ W, W = X2.alloc (.cells #[.int .i64 0, .slice none 0 0, .int .i64 0] 27) := ⟨_, rfl⟩
  obtain ⟨zb, hzb⟩ : ∃ z, z = X2.heap.size := ⟨_, rfl⟩
  rw [← hX3, ← hzb]
  have hb3 : Below X2.heap.size X2 X3 := by rw [hX3]; exact bel_alloc (Below.refl _ _) _
  have bz : Box X3 zb #[.int .i64 0, .slice none 0 0, .int .i64 0] 27 := by rw [hX3, hzb]; exact Box.new X2 _ _
  have ba := BA.out X3 hb3
  have bb := BB.out X3 hb3
  have bX := HBOX.out.below hb3
  have bY := HBOY.out.below hb3
  have HB3 := Lib.hid (bel_trans HBX2.out hb3)
  have HOP := Lib.hid (ownsRow_below HOP.out hb3)
  have HIP := Lib.hid (fun p hp => (HIP.out p hp).below hb3)
  have HO5 := Lib.hid (ownsRow_below HO5.out hb3)
  have HO6 := Lib.hid (ownsRow_below HO6.out hb3)
  have BA := Lib.hid (fun W hW => ba.below (w' := W) hW)
  have BB := Lib.hid (fun W hW => bb.below (w' := W) hW)
  have BX := Lib.hid (fun W hW => bX.below (w' := W) hW)
  have BY := Lib.hid (fun W hW => bY.below (w' := W) hW)
  have BZ := Lib.hid (fun W hW => bz.below (w' := W) hW)
  clear y0 y1 y2 y3 y4 y5 x0 x1 x2 x3 x4 x5 l0 l1 hb3 ba bb bX bY bz hX3 hzb HBX2 HBOX HBOY
  go_upto_region 10 with (go_at_call 27; refine (HWE.out _ HB3.out).mono ?_; rintro e V4 ⟨rfl, hV4⟩)
  have HV4 := Lib.hid hV4
  clear hV4
  have h0 : we = 0 := H1.out.trans hq
  have hw5 := (whoE_len hq).1
  have hb4 := bel_trans HB3.out HV4.out
  have HTK := Lib.hid (refTokens_any AW cw who V4 hw5 (HDD.out V4 hb4).r3)
  have hps1 : ps.map (·.2) = toksP who := by rw [HPS.out, H6.out, if_pos hq]
  have hpl : ps.length ≤ 80 := by
    have h1 := congrArg List.length hps1
    rw [List.length_map] at h1
    have h2 := toksN_len who hw5 who.length (Nat.le_refl _)
    unfold toksP at h1
    omega
  have HP1 := Lib.hid hps1
  have hop := ownsRow_below HOP.out HV4.out
  have HOP := Lib.hid hop
  have HIP := Lib.hid (fun p hp => (HIP.out p hp).below HV4.out)
  subst h0
  clear hps1 hop hb4
  go_upto_region 14 with (go_at_call 28; refine HTK.out.mono ?_; rintro e V5 ⟨qs, Bq, kq, rfl, hqs, hoq, hiq, hV5⟩)
  have hlen : (ps.length : Int) = qs.length := by
    have h1 := congrArg List.length HP1.out
    have h2 := congrArg List.length hqs
    rw [List.length_map] at h1 h2
    omega
  have HQS := Lib.hid hqs
  have HOP := Lib.hid (ownsRow_below HOP.out hV5)
  have HIP := Lib.hid (fun p hp => (HIP.out p hp).below hV5)
  have HOQ := Lib.hid hoq
  have HIQ := Lib.hid hiq
  have HV45 := Lib.hid hV5
  have hnat : ps.length = qs.length := by omega
  have hne : ((ps.length : Int) != qs.length) = false := by simp; omega
  have hg5 : ∀ t ∈ toksP who, t.gs.length ≤ 5 := fun t ht => Nat.le_trans ((toksP_p who t ht).2 _ rfl) hw5
  have HG5 := Lib.hid hg5
  clear hqs hoq hiq hV5 hg5 HTK
  go_wp2
  go_loopw [17] (fun ix wr => ∃ j : Nat, j ≤ ps.length ∧ ix = .int .i64 j ∧ Below V5.heap.size V5 wr) (fun ix _ => ps.length - (intOf ix).toNat)
  case atStart => exact ⟨0, Nat.zero_le _, rfl, Below.refl _ _⟩
  case round =>
    obtain ⟨j, hj, rfl, hb⟩ := hrel
    by_cases hlt : j < ps.length
    · have hlq : j < qs.length := by omega
      obtain ⟨bl, ol, rfl, hBl, hcl⟩ := (Rd.of_own (ownsRow_below HOP.out hb)).opened (by rw [toksV_length]; omega)
      obtain ⟨g0, g1, g2⟩ := toksV_get ps j hlt
      have c0 : wr.cell? ⟨bl, ol + j * 3, none⟩ = _ := hcl _ _ g0
      have c1 : wr.cell? ⟨bl, ol + j * 3 + 1, none⟩ = _ := hcl _ _ g1
      have c2 : wr.cell? ⟨bl, ol + j * 3 + 1 + 1, none⟩ = _ := hcl _ _ g2
      obtain ⟨bq, oq, rfl, hBq, hcq⟩ := (Rd.of_own (ownsRow_below HOQ.out hb)).opened (by rw [toksV_length]; omega)
      obtain ⟨g3, g4, g5⟩ := toksV_get qs j hlq
      have c3 : wr.cell? ⟨bq, oq + j * 3, none⟩ = _ := hcq _ _ g3
      have c4 : wr.cell? ⟨bq, oq + j * 3 + 1, none⟩ = _ := hcq _ _ g4
      have c5 : wr.cell? ⟨bq, oq + j * 3 + 1 + 1, none⟩ = _ := hcq _ _ g5
      obtain ⟨Ai, ci, hv, ho1⟩ := HIP.out ps[j] (List.getElem_mem hlt)
      obtain ⟨Aj, cj, hv2, ho2⟩ := HIQ.out qs[j] (List.getElem_mem hlq)
      have htq : ps[j].2 = qs[j].2 := by
        have h1 : (ps.map (·.2))[j]? = (qs.map (·.2))[j]? := by rw [HP1.out, HQS.out]
        simpa [hlt, hlq] using h1
      obtain ⟨t, ht⟩ : ∃ t, t = ps[j].2 := ⟨_, rfl⟩
      have hgl : t.gs.length ≤ 5 := HG5.out t (by rw [← HP1.out, ht]; exact List.mem_map_of_mem (List.getElem_mem hlt))
      have hv' : ps[j].1 = .slice Ai t.gs.length ci := by rw [ht]; exact hv
      have hv2' : qs[j].1 = .slice Aj t.gs.length cj := by rw [ht, htq]; exact hv2
      rw [hv'] at c1
      rw [hv2'] at c4
      rw [← htq] at c3 c5
      rw [← ht] at c0 c2 c3 c5
      have r1 : Rd wr wr.heap.size Ai (t.gs.map (.int .i64)) := by rw [ht]; exact Rd.of_own (ownsRow_below ho1 hb)
      have r2 : Rd wr wr.heap.size Aj (t.gs.map (.int .i64)) := by rw [ht, htq]; exact Rd.of_own (ownsRow_below ho2 hb)
      have HST := Lib.hid (fun W (hW : Below wr.heap.size wr W) => (SameTok_any t t Ai Aj ci cj W (by omega) (by omega) (r1.below' hW) (r2.below' hW)).mono (fun e w' h => (show e = .returned (.bool true) ∧ Below W.heap.size W w' from ⟨h.1.trans (by simp), h.2⟩)))
      have HB2 := Lib.hid hb
      unfold tokV at HST
      clear g0 g1 g2 g3 g4 g5 hcl hcq hv hv2 hv' hv2' ho1 ho2 htq ht r1 r2 hb
      go_wp2
      have hgX := regcell (Below.refl _ wr)
      (refine wp_region_quiet_below (by kernel_rfl) (by kernel_rfl) ?_; (repeat (go_big_quiet_step ((first | (go_at_call 29; (with_reducible exact Calls.regrown_of (HST.out _ (below_regrown wr _ _)))))))); (with_reducible refine wpQuiet_nil ?_); intro W6 hreg; have hbW6 := below_of_reg hreg; clear hreg; obtain ⟨hcW6, hfW6⟩ := bcell hbW6)
      go_wp2
      go_roundw
      case rel => exact ⟨j + 1, by omega, by go_num, bel_trans HB2.out hbW6⟩
      case measure => simp [intOf]; omega
    · have ga := HD0.out.1
      have gb := HD0.out.2
      have hcz : cmpE a b who = 0 := by rw [cmpE_eq, ga, gb, hq]; rfl
      obtain rfl : da = 0 := H2.out.trans ga
      obtain rfl : db = 0 := H3.out.trans gb
      have g5 := (whoE_len hq).1
      obtain ⟨hd1, hd2⟩ := cmpR_dif hcz
      obtain ⟨hm1, hm2⟩ := cmpR_mor hcz
      have hbW := bel_trans HV4.out (bel_trans HV45.out hb)
      have hb4 := bel_trans HB3.out hbW
      clear hq hcz hb
      have ba := BA.out wr hbW
      have bb := BB.out wr hbW
      have y0 : wr.cell? ⟨w.heap.size, 0, none⟩ = some (.int .i64 a.o) := Box.cells ba 0; have y1 : wr.cell? ⟨w.heap.size, 1, none⟩ = some (.int .i64 a.g) := Box.cells ba 1; have y2 : wr.cell? ⟨w.heap.size, 2, none⟩ = some (.bool a.pr) := Box.cells ba 2; have y3 : wr.cell? ⟨w.heap.size, 3, none⟩ = some (.bool a.he) := Box.cells ba 3; have y4 : wr.cell? ⟨w.heap.size, 4, none⟩ = some (.slice A1 a.es.length a1) := Box.cells ba 4; have y5 : wr.cell? ⟨w.heap.size, 5, none⟩ = some (.slice A2 a.us.length a2) := Box.cells ba 5
      have x0 : wr.cell? ⟨w.heap.size + 1, 0, none⟩ = some (.int .i64 b.o) := Box.cells bb 0; have x1 : wr.cell? ⟨w.heap.size + 1, 1, none⟩ = some (.int .i64 b.g) := Box.cells bb 1; have x2 : wr.cell? ⟨w.heap.size + 1, 2, none⟩ = some (.bool b.pr) := Box.cells bb 2; have x3 : wr.cell? ⟨w.heap.size + 1, 3, none⟩ = some (.bool b.he) := Box.cells bb 3; have x4 : wr.cell? ⟨w.heap.size + 1, 4, none⟩ = some (.slice B1 b.es.length b1) := Box.cells bb 4; have x5 : wr.cell? ⟨w.heap.size + 1, 5, none⟩ = some (.slice B2 b.us.length b2) := Box.cells bb 5
      have l0 := ba.lt
      have l1 := bb.lt
      go_upto_region 28 with (first | (go_at_call 30; (with_reducible refine (HDA.out _ hb4).mono ?_); rintro e V6 ⟨rfl, hV6⟩; obtain ⟨hcV6, hfV6⟩ := bcell hV6; have s6 := hV6.size; have k1V6 : w.heap.size < V6.heap.size := (by omega); have k2V6 : w.heap.size + 1 < V6.heap.size := (by omega)) | (go_at_call 30; (with_reducible refine (HDB.out _ (bel_trans hb4 hV6)).mono ?_); rintro e V7 ⟨rfl, hV7⟩))
      have hbW := bel_trans hbW (bel_trans hV6 hV7)
      have hb4 := bel_trans hb4 (bel_trans hV6 hV7)
      clear y0 y1 y2 y3 y4 y5 x0 x1 x2 x3 x4 x5 l0 l1 hcV6 hfV6 s6 k1V6 k2V6 hV6 hV7 ba bb
      have ba := BA.out V7 hbW
      have bb := BB.out V7 hbW
      have bX := BX.out V7 hbW
      have bY := BY.out V7 hbW
      have bZ := BZ.out V7 hbW
      have y0 : V7.cell? ⟨w.heap.size, 0, none⟩ = some (.int .i64 a.o) := Box.cells ba 0; have y1 : V7.cell? ⟨w.heap.size, 1, none⟩ = some (.int .i64 a.g) := Box.cells ba 1; have y2 : V7.cell? ⟨w.heap.size, 2, none⟩ = some (.bool a.pr) := Box.cells ba 2; have y3 : V7.cell? ⟨w.heap.size, 3, none⟩ = some (.bool a.he) := Box.cells ba 3; have y4 : V7.cell? ⟨w.heap.size, 4, none⟩ = some (.slice A1 a.es.length a1) := Box.cells ba 4; have y5 : V7.cell? ⟨w.heap.size, 5, none⟩ = some (.slice A2 a.us.length a2) := Box.cells ba 5
      have x0 : V7.cell? ⟨w.heap.size + 1, 0, none⟩ = some (.int .i64 b.o) := Box.cells bb 0; have x1 : V7.cell? ⟨w.heap.size + 1, 1, none⟩ = some (.int .i64 b.g) := Box.cells bb 1; have x2 : V7.cell? ⟨w.heap.size + 1, 2, none⟩ = some (.bool b.pr) := Box.cells bb 2; have x3 : V7.cell? ⟨w.heap.size + 1, 3, none⟩ = some (.bool b.he) := Box.cells bb 3; have x4 : V7.cell? ⟨w.heap.size + 1, 4, none⟩ = some (.slice B1 b.es.length b1) := Box.cells bb 4; have x5 : V7.cell? ⟨w.heap.size + 1, 5, none⟩ = some (.slice B2 b.us.length b2) := Box.cells bb 5
      have l0 := ba.lt
      have l1 := bb.lt
      have p0 : V7.cell? ⟨bx, 0, none⟩ = some (.int .i64 T1.u) := bX.cells 0
      have p1 : V7.cell? ⟨bx, 1, none⟩ = some (.slice A5 T1.gs.length c5) := bX.cells 1
      have p2 : V7.cell? ⟨bx, 2, none⟩ = some (.int .i64 T1.p) := bX.cells 2
      have q0 : V7.cell? ⟨by_, 0, none⟩ = some (.int .i64 T2.u) := bY.cells 0
      have q1 : V7.cell? ⟨by_, 1, none⟩ = some (.slice A6 T2.gs.length c6) := bY.cells 1
      have q2 : V7.cell? ⟨by_, 2, none⟩ = some (.int .i64 T2.p) := bY.cells 2
      have r0 : V7.cell? ⟨zb, 0, none⟩ = some (.int .i64 0) := bZ.cells 0
      have r1 : V7.cell? ⟨zb, 1, none⟩ = some (.slice none 0 0) := bZ.cells 1
      have r2 : V7.cell? ⟨zb, 2, none⟩ = some (.int .i64 0) := bZ.cells 2
      have lx := bX.lt
      have ly := bY.lt
      have lz := bZ.lt
      have ry5 : Rd V7 V7.heap.size A5 (T1.gs.map (.int .i64)) := Rd.of_own (ownsRow_below HO5.out hbW)
      have ry6 : Rd V7 V7.heap.size A6 (T2.gs.map (.int .i64)) := Rd.of_own (ownsRow_below HO6.out hbW)
      have lT1 : T1.gs.length ≤ 5 := by have := cmpR_len xorF a b who; rw [← H4.out] at this; exact this
      have lT2 : T2.gs.length ≤ 5 := by have := cmpR_len moreF a b who; rw [← H5.out] at this; exact this
      have HS1 := Lib.hid (fun (t : TokP) (ht : t.gs.length ≤ 5) (h : T1 = t) B k W (hW : Below V7.heap.size V7 W) (hr : Rd W W.heap.size B (t.gs.map (.int .i64))) => (SameTok_any T1 t A5 B c5 k W (by omega) (by omega) (ry5.below' hW) hr).mono (fun e w' q => (show e = .returned (.bool true) ∧ Below W.heap.size W w' from ⟨q.1.trans (by rw [h]; simp), q.2⟩)))
      have HS2 := Lib.hid (fun (t : TokP) (ht : t.gs.length ≤ 5) (h : T2 = t) B k W (hW : Below V7.heap.size V7 W) (hr : Rd W W.heap.size B (t.gs.map (.int .i64))) => (SameTok_any T2 t A6 B c6 k W (by omega) (by omega) (ry6.below' hW) hr).mono (fun e w' q => (show e = .returned (.bool true) ∧ Below W.heap.size W w' from ⟨q.1.trans (by rw [h]; simp), q.2⟩)))
      have HN := Lib.hid (fun (W : World) => (show Rd W W.heap.size none (noT.gs.map (.int .i64)) from Rd.nil _ _ _))
      unfold tokV at HS1 HS2
      clear ry5 ry6 bX bY bZ ba bb
      have HB7 := Lib.hid hb4
      have BA := Lib.hid (fun W (hW : Below V7.heap.size V7 W) => BA.out W (bel_trans hbW hW))
      have BB := Lib.hid (fun W (hW : Below V7.heap.size V7 W) => BB.out W (bel_trans hbW hW))
      have BX := Lib.hid (fun W (hW : Below V7.heap.size V7 W) => BX.out W (bel_trans hbW hW))
      have BY := Lib.hid (fun W (hW : Below V7.heap.size V7 W) => BY.out W (bel_trans hbW hW))
      have BZ := Lib.hid (fun W (hW : Below V7.heap.size V7 W) => BZ.out W (bel_trans hbW hW))
      clear hb4 hbW
      rw [← H4.out] at hd1 hd2
      rw [← H5.out] at hm1 hm2
      have HDF := Lib.hid (fun W (hW : Below w.heap.size w W) => Difference_any a b who A1 A2 B1 B2 AW a1 a2 b1 b2 cw W (HDD.out W hW) ga gb g5)
      have HMR := Lib.hid (fun W (hW : Below w.heap.size w W) => More_any a b who A1 A2 B1 B2 AW a1 a2 b1 b2 cw W (HDD.out W hW) ga gb g5)
      obtain ⟨⟨D, dB⟩, hD⟩ : ∃ r, r = difR a b (toksP who) := ⟨_, rfl⟩
      obtain ⟨⟨M, mo⟩, hM⟩ : ∃ r, r = morR a b (toksP who) := ⟨_, rfl⟩
      rw [← hD] at HDF hd1 hd2
      rw [← hM] at HMR hm1 hm2
      dsimp only at HDF HMR hd1 hd2 hm1 hm2
      have HD1 := Lib.hid hd1
      have HD2 := Lib.hid hd2
      have HM1 := Lib.hid hm1
      have HM2 := Lib.hid hm2
      clear hd1 hd2 hm1 hm2 hD hM ga gb
      unfold dscV at HDF HMR
      have lD : D.gs.length ≤ 5 := by
        cases dB
        · rw [(HD2.out rfl).2]; simp [noT]
        · obtain ⟨n, h⟩ := HD1.out rfl
          injection h with h
          rw [← h]; exact lT1
      go_upto_region 29 with (first | (go_at_call 31; refine (HDF.out _ HB7.out).mono ?_; rintro e V8 ⟨A8, c8, rfl, ho8, hV8⟩; obtain ⟨hcV8, hfV8⟩ := bcell hV8) | (refine wpList_store_new rfl 27 (.tmp 19) (.tmp 147) rfl rfl V8.heap.size #[.int .i64 D.u, .slice A8 D.gs.length c8, .int .i64 D.p] rfl rfl V8 (bel_alloc (Below.refl _ _) _) (Nat.le_refl _) 27 _ (Box.new V8 _ _) (by kernel_rfl) (by kernel_rfl) (by kernel_rfl) ?_; intro W9 hb9 bx9 keep9))
      have hw9 := bel_trans hV8 hb9
      have ba := BA.out W9 hw9
      have bb := BB.out W9 hw9
      have bX := BX.out W9 hw9
      have bY := BY.out W9 hw9
      have bZ := BZ.out W9 hw9
      clear y0 y1 y2 y3 y4 y5 x0 x1 x2 x3 x4 x5 l0 l1 p0 p1 p2 q0 q1 q2 r0 r1 r2 lx ly lz hcV8 hfV8 keep9
      have y0 : W9.cell? ⟨w.heap.size, 0, none⟩ = some (.int .i64 a.o) := Box.cells ba 0; have y1 : W9.cell? ⟨w.heap.size, 1, none⟩ = some (.int .i64 a.g) := Box.cells ba 1; have y2 : W9.cell? ⟨w.heap.size, 2, none⟩ = some (.bool a.pr) := Box.cells ba 2; have y3 : W9.cell? ⟨w.heap.size, 3, none⟩ = some (.bool a.he) := Box.cells ba 3; have y4 : W9.cell? ⟨w.heap.size, 4, none⟩ = some (.slice A1 a.es.length a1) := Box.cells ba 4; have y5 : W9.cell? ⟨w.heap.size, 5, none⟩ = some (.slice A2 a.us.length a2) := Box.cells ba 5
      have x0 : W9.cell? ⟨w.heap.size + 1, 0, none⟩ = some (.int .i64 b.o) := Box.cells bb 0; have x1 : W9.cell? ⟨w.heap.size + 1, 1, none⟩ = some (.int .i64 b.g) := Box.cells bb 1; have x2 : W9.cell? ⟨w.heap.size + 1, 2, none⟩ = some (.bool b.pr) := Box.cells bb 2; have x3 : W9.cell? ⟨w.heap.size + 1, 3, none⟩ = some (.bool b.he) := Box.cells bb 3; have x4 : W9.cell? ⟨w.heap.size + 1, 4, none⟩ = some (.slice B1 b.es.length b1) := Box.cells bb 4; have x5 : W9.cell? ⟨w.heap.size + 1, 5, none⟩ = some (.slice B2 b.us.length b2) := Box.cells bb 5
      have l0 := ba.lt
      have l1 := bb.lt
      have p0 : W9.cell? ⟨bx, 0, none⟩ = some (.int .i64 T1.u) := bX.cells 0
      have p1 : W9.cell? ⟨bx, 1, none⟩ = some (.slice A5 T1.gs.length c5) := bX.cells 1
      have p2 : W9.cell? ⟨bx, 2, none⟩ = some (.int .i64 T1.p) := bX.cells 2
      have q0 : W9.cell? ⟨by_, 0, none⟩ = some (.int .i64 T2.u) := bY.cells 0
      have q1 : W9.cell? ⟨by_, 1, none⟩ = some (.slice A6 T2.gs.length c6) := bY.cells 1
      have q2 : W9.cell? ⟨by_, 2, none⟩ = some (.int .i64 T2.p) := bY.cells 2
      have r0 : W9.cell? ⟨zb, 0, none⟩ = some (.int .i64 0) := bZ.cells 0
      have r1 : W9.cell? ⟨zb, 1, none⟩ = some (.slice none 0 0) := bZ.cells 1
      have r2 : W9.cell? ⟨zb, 2, none⟩ = some (.int .i64 0) := bZ.cells 2
      have lx := bX.lt
      have ly := bY.lt
      have lz := bZ.lt
      have s0 : W9.cell? ⟨V8.heap.size, 0, none⟩ = some (.int .i64 D.u) := bx9.cells 0
      have s1 : W9.cell? ⟨V8.heap.size, 1, none⟩ = some (.slice A8 D.gs.length c8) := bx9.cells 1
      have s2 : W9.cell? ⟨V8.heap.size, 2, none⟩ = some (.int .i64 D.p) := bx9.cells 2
      have ls := bx9.lt
      have ry8 : Rd W9 W9.heap.size A8 (D.gs.map (.int .i64)) := Rd.of_own (ownsRow_below ho8 hb9)
      have HSD := Lib.hid (fun h => HS1.out D lD h A8 c8 W9 hw9 ry8)
      have HSN := Lib.hid (fun h => HS1.out noT (by simp [noT]) h none 0 W9 hw9 (HN.out W9))
      have HS2 := Lib.hid (fun t ht h B k W (hW : Below W9.heap.size W9 W) hr => HS2.out t ht h B k W (bel_trans hw9 hW) hr)
      have HDF := Lib.hid (bel_trans HB7.out hw9)
      have HO := Lib.hid (And.intro ba (And.intro bb (And.intro bX (And.intro bY bZ))))
      dsimp only [noT, List.length_nil] at HSN
      obtain ⟨bs, hbs⟩ : ∃ x, x = V8.heap.size := ⟨_, rfl⟩
      rw [← hbs] at s0 s1 s2 ls ⊢
      clear hw9 hb9 bx9 ho8 hV8 ry8 ba bb bX bY bZ hbs
      go_cut [173] (fun s173 wx => s173 = .bool false ∧ Below W9.heap.size W9 wx)
      case first =>
        cases dB
        · obtain ⟨h1, _⟩ := HD2.out rfl
          injection h1 with h11 h12
          injection h12 with h12 h13
          have HSN := Lib.hid (HSN.out h11)
          clear h11 h12
          subst h13
          go_wp2_with ((go_at_call 29; (with_reducible refine (HSN.out).mono ?_); rintro e V10 ⟨rfl, hV10⟩))
          go_meet
          exact ⟨rfl, hV10⟩
        · obtain ⟨n, h1⟩ := HD1.out rfl
          injection h1 with h11 h12
          injection h12 with h12 h13
          have HSD := Lib.hid (HSD.out h11)
          clear h11 h12
          subst h13
          go_wp2_with ((go_at_call 29; (with_reducible refine (HSD.out).mono ?_); rintro e V10 ⟨rfl, hV10⟩))
          go_meet
          exact ⟨rfl, hV10⟩
      case rest =>
      rename World => W10
      obtain ⟨rfl, hV10⟩ := hcut
      obtain ⟨ba, bb, bX, bY, bZ⟩ := HO.out
      have ba := ba.below hV10
      have bb := bb.below hV10
      have bX := bX.below hV10
      have bY := bY.below hV10
      have bZ := bZ.below hV10
      have HB10 := Lib.hid (bel_trans HDF.out hV10)
      have HS2 := Lib.hid (fun t ht h B k W (hW : Below W10.heap.size W10 W) hr => HS2.out t ht h B k W (bel_trans hV10 hW) hr)
      clear y0 y1 y2 y3 y4 y5 x0 x1 x2 x3 x4 x5 l0 l1 p0 p1 p2 q0 q1 q2 r0 r1 r2 lx ly lz s0 s1 s2 ls HSD HSN HD1 HD2 HDF HO hV10 HS1
      have y0 : W10.cell? ⟨w.heap.size, 0, none⟩ = some (.int .i64 a.o) := Box.cells ba 0; have y1 : W10.cell? ⟨w.heap.size, 1, none⟩ = some (.int .i64 a.g) := Box.cells ba 1; have y2 : W10.cell? ⟨w.heap.size, 2, none⟩ = some (.bool a.pr) := Box.cells ba 2; have y3 : W10.cell? ⟨w.heap.size, 3, none⟩ = some (.bool a.he) := Box.cells ba 3; have y4 : W10.cell? ⟨w.heap.size, 4, none⟩ = some (.slice A1 a.es.length a1) := Box.cells ba 4; have y5 : W10.cell? ⟨w.heap.size, 5, none⟩ = some (.slice A2 a.us.length a2) := Box.cells ba 5
      have x0 : W10.cell? ⟨w.heap.size + 1, 0, none⟩ = some (.int .i64 b.o) := Box.cells bb 0; have x1 : W10.cell? ⟨w.heap.size + 1, 1, none⟩ = some (.int .i64 b.g) := Box.cells bb 1; have x2 : W10.cell? ⟨w.heap.size + 1, 2, none⟩ = some (.bool b.pr) := Box.cells bb 2; have x3 : W10.cell? ⟨w.heap.size + 1, 3, none⟩ = some (.bool b.he) := Box.cells bb 3; have x4 : W10.cell? ⟨w.heap.size + 1, 4, none⟩ = some (.slice B1 b.es.length b1) := Box.cells bb 4; have x5 : W10.cell? ⟨w.heap.size + 1, 5, none⟩ = some (.slice B2 b.us.length b2) := Box.cells bb 5
      have l0 := ba.lt
      have l1 := bb.lt
      have HO := Lib.hid (And.intro bY bZ)
      clear ba bb bX bY bZ
      go_upto_region 32 with (first | (go_at_call 32; refine (HMR.out _ HB10.out).mono ?_; rintro e V11 ⟨A9, c9, rfl, ho9, hV11⟩; obtain ⟨hcV11, hfV11⟩ := bcell hV11) | (refine wpList_store_new rfl 27 (.tmp 21) (.tmp 179) rfl rfl V11.heap.size #[.int .i64 M.u, .slice A9 M.gs.length c9, .int .i64 M.p] rfl rfl V11 (bel_alloc (Below.refl _ _) _) (Nat.le_refl _) 27 _ (Box.new V11 _ _) (by kernel_rfl) (by kernel_rfl) (by kernel_rfl) ?_; intro W12 hb12 bx12 keep12))
      have hw12 := bel_trans hV11 hb12
      obtain ⟨bY, bZ⟩ := HO.out
      have bY := bY.below hw12
      have bZ := bZ.below hw12
      have q0 : W12.cell? ⟨by_, 0, none⟩ = some (.int .i64 T2.u) := bY.cells 0
      have q1 : W12.cell? ⟨by_, 1, none⟩ = some (.slice A6 T2.gs.length c6) := bY.cells 1
      have q2 : W12.cell? ⟨by_, 2, none⟩ = some (.int .i64 T2.p) := bY.cells 2
      have r0 : W12.cell? ⟨zb, 0, none⟩ = some (.int .i64 0) := bZ.cells 0
      have r1 : W12.cell? ⟨zb, 1, none⟩ = some (.slice none 0 0) := bZ.cells 1
      have r2 : W12.cell? ⟨zb, 2, none⟩ = some (.int .i64 0) := bZ.cells 2
      have ly := bY.lt
      have lz := bZ.lt
      have s0 : W12.cell? ⟨V11.heap.size, 0, none⟩ = some (.int .i64 M.u) := bx12.cells 0
      have s1 : W12.cell? ⟨V11.heap.size, 1, none⟩ = some (.slice A9 M.gs.length c9) := bx12.cells 1
      have s2 : W12.cell? ⟨V11.heap.size, 2, none⟩ = some (.int .i64 M.p) := bx12.cells 2
      have ls := bx12.lt
      have ry9 : Rd W12 W12.heap.size A9 (M.gs.map (.int .i64)) := Rd.of_own (ownsRow_below ho9 hb12)
      have HSM := Lib.hid (fun lM h => HS2.out M lM h A9 c9 W12 hw12 ry9)
      have HSN := Lib.hid (fun h => HS2.out noT (by simp [noT]) h none 0 W12 hw12 (HN.out W12))
      have HBF := Lib.hid (bel_trans HB10.out hw12)
      dsimp only [noT, List.length_nil] at HSN
      clear y0 y1 y2 y3 y4 y5 x0 x1 x2 x3 x4 x5 l0 l1 hcV11 hfV11 keep12 hw12 hb12 bx12 ho9 hV11 ry9 bY bZ HO
      by_cases hm : mo = 0
      · have h1 := HM2.out hm
        injection h1 with h11 h12
        injection h12 with h12 h13
        have HSN := Lib.hid (HSN.out h11)
        clear h11 HSM HM1 HM2
        subst h13 h12 hm
        go_wp2_with ((go_at_call 29; (with_reducible refine (HSN.out).mono ?_); rintro e V13 ⟨rfl, hV13⟩))
        go_ret
        exact ⟨rfl, bel_trans HBF.out hV13⟩
      · have h1 := HM1.out hm
        injection h1 with h11 h12
        injection h12 with h12 h13
        have hm' : (mo != 0) = true := by simpa using hm
        have HSM := Lib.hid (HSM.out (by rw [← h11]; exact lT2) h11)
        clear h11 HSN HM1 HM2
        subst h13 h12
        go_wp2_with ((go_at_call 29; (with_reducible refine (HSM.out).mono ?_); rintro e V13 ⟨rfl, hV13⟩))
        go_ret
        exact ⟨rfl, bel_trans HBF.out hV13⟩
end Go.Proofs.YtanicpgmbhfipaaGreatDoor
