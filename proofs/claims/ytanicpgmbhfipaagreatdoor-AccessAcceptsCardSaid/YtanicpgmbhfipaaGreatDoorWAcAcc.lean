/-
  Chapter 17: the law AccessAccepts: its walk.
-/
import Derived.Test.YtanicpgmbhfipaaGreatDoorAcL
import Derived.Test.YtanicpgmbhfipaaGreatDoorAcDcd
namespace Go.Proofs.YtanicpgmbhfipaaGreatDoor
set_option linter.unusedVariables false
set_option linter.unusedSimpArgs false
open Go.RowKit Go.Sort

theorem leaf_ints {l : List Int} {A : Option Addr} {c : Nat} {X : World} {s : Sem Next} (h : s.run Tryz.prog X = .ok (.enter 22 #[.slice A l.length c]) X) (hl : l.length ≤ 100000) (hr : Rd X X.heap.size A (l.map (.int .i64))) :
    LeavesR Tryz.prog (IntsO l) X (s.run Tryz.prog X) := by
  refine leaves_call' h ((CopyInts_it A c l X (by omega) hr).mono ?_)
  rintro e W1 ⟨B, k, rfl, ho, hb⟩
  exact ⟨_, rfl, hb, B, k, rfl, Rd.of_own ho⟩
theorem ck_bad {d : DscP} {t : TokP} {l : List Int} (h : botE d t ≠ 0) : ckP d t l = (0, botE d t) := by
  have e : ckE d t l = botE d t := by unfold ckE firstE; rw [if_neg h]
  unfold ckP
  rw [e, if_neg h]
theorem ck_len {d : DscP} {t : TokP} {l : List Int} (h : botE d t = 0) (h9 : l.length ≠ 9) : ckP d t l = (0, 10) := by
  have e : ckE d t l = 10 := by
    unfold ckE firstE
    rw [if_pos h, show ((l.length : Int) == 9) = false by simp; omega]; rfl
  unfold ckP
  rw [e, if_neg (by decide)]
theorem ck_ok {d : DscP} {t : TokP} {l : List Int} (h : botE d t = 0) (h9 : l.length = 9) : ckP d t l = eachE (dcdE (decP d t)) 0 l := by
  have e : ckE d t l = 0 := by
    unfold ckE firstE
    rw [if_pos h, h9]; rfl
  unfold ckP
  rw [e, if_pos rfl]
set_option maxRecDepth 100000 in
set_option maxHeartbeats 4000000 in
theorem wAccessAccepts (d : DscP) (A1 A2 : Option Addr) (c1 c2 : Nat) (t : TokP) (A : Option Addr) (c : Nat) (AB : Option Addr) (cB : Nat) (l : List Int) (w : World) (hr1 : Rd w w.heap.size A1 (acesV d.es)) (hr2 : Rd w w.heap.size A2 (acesV d.us)) (hr3 : Rd w w.heap.size A (t.gs.map (.int .i64))) (hl : l.length ≤ maxLen) (hr4 : Rd w w.heap.size AB (l.map (.int .i64))) (hg : GrT w) :
    Calls Tryz.prog 4 #[dscV d A1 A2 c1 c2, tokV t A c, .slice AB l.length cB] w fun e w' => e = .returned (.bool true) ∧ Below w.heap.size w w' := by
  have HF := Lib.hid (fun W => few_any d t A1 A2 A c1 c2 c W)
  have HW := Lib.hid (fun W (hW : Below w.heap.size w W) => awake17_any W (hg.below hW))
  have bD := (Box.new w (dscC d A1 A2 c1 c2) 24).old (.cells (tokC t A c) 27)
  have bT := Box.new (w.alloc (.cells (dscC d A1 A2 c1 c2) 24)) (tokC t A c) 27
  rw [World.size_alloc] at bT
  have BD := Lib.hid (fun W hW => bD.below (w' := W) hW)
  have BT := Lib.hid (fun W hW => bT.below (w' := W) hW)
  have HI := Lib.hid (fun W (hW : Below w.heap.size w W) => hr4.below' hW)
  unfold maxLen at hl
  unfold dscC tokC at BD BT
  obtain ⟨fw, hfw⟩ : ∃ fw, fw = fewB d t := ⟨_, rfl⟩
  rw [← hfw] at HF
  cases fw
  · clear bD bT hr1 hr2 hr3 hr4 hg hfw
    unfold dscV tokV at *
    go_enter Tryz.func4, Tryz.ntmps4
    go_wp2_with (first | (go_at_call 9; refine (HW.out _ (bel_alloc (bel_alloc (Below.refl _ _) _) _)).mono ?_; rintro e V ⟨rfl, hV⟩; obtain ⟨hcV, hfV⟩ := bcell hV) | (go_at_call 10; refine (HF.out _).mono ?_; rintro e V2 ⟨rfl, hbV2⟩; obtain ⟨hcV2, hfV2⟩ := bcell hbV2))
    go_ret
    exact ⟨rfl, by (repeat (first | assumption | exact Below.refl _ _ | refine bel_drewN ?_ _ | refine bel_alloc ?_ _ | refine bel_trans ?_ (by assumption) | refine Below.trans ?_ (by assumption)))⟩
  by_cases h12 : 12 < l.length
  · clear bD bT hr1 hr2 hr3 hr4 hg hfw
    unfold dscV tokV at *
    go_enter Tryz.func4, Tryz.ntmps4
    go_wp2_with (first | (go_at_call 9; refine (HW.out _ (bel_alloc (bel_alloc (Below.refl _ _) _) _)).mono ?_; rintro e V ⟨rfl, hV⟩; obtain ⟨hcV, hfV⟩ := bcell hV) | (go_at_call 10; refine (HF.out _).mono ?_; rintro e V2 ⟨rfl, hbV2⟩; obtain ⟨hcV2, hfV2⟩ := bcell hbV2))
    go_ret
    exact ⟨rfl, by (repeat (first | assumption | exact Below.refl _ _ | refine bel_drewN ?_ _ | refine bel_alloc ?_ _ | refine bel_trans ?_ (by assumption) | refine Below.trans ?_ (by assumption)))⟩
  · have hlen : d.es.length ≤ 20 ∧ d.us.length ≤ 20 ∧ t.gs.length ≤ 18 := by
      unfold fewB fewD at hfw
      simp at hfw
      omega
    have hdt : DT d t A1 A2 A w := ⟨by omega, by omega, by omega, hr1, hr2, hr3, hg⟩
    have HDT := Lib.hid (fun W (hW : Below w.heap.size w W) => hdt.below hW)
    clear bD bT hr1 hr2 hr3 hr4 hg hfw
    obtain ⟨e0, he0⟩ : ∃ e, e = botE d t := ⟨_, rfl⟩
    obtain ⟨q1, hq1⟩ : ∃ e, e = (ckP d t l).1 := ⟨_, rfl⟩
    obtain ⟨q2, hq2⟩ : ∃ e, e = (ckP d t l).2 := ⟨_, rfl⟩
    have HA := Lib.hid (fun B1 B2 B BI k1 k2 k kI W h hl hr => CheckDecided_any d t l B1 B2 B BI k1 k2 k kI W h hl hr)
    have HE := Lib.hid (fun W (hW : Below w.heap.size w W) => bothErr_any d t A1 A2 A c1 c2 c W (HDT.out W hW))
    rw [← he0] at HE
    rw [← hq1, ← hq2] at HA
    have H1 := Lib.hid he0
    have H2 := Lib.hid hq1
    have H3 := Lib.hid hq2
    clear he0 hq1 hq2
    unfold dscV tokV at HF HE
    unfold dscV tokV
    go_enter Tryz.func4, Tryz.ntmps4
    go_wp2_with (first | (go_at_call 9; refine (HW.out _ (bel_alloc (bel_alloc (Below.refl _ _) _) _)).mono ?_; rintro e V ⟨rfl, hV⟩; obtain ⟨hcV, hfV⟩ := bcell hV) | (go_at_call 10; refine (HF.out _).mono ?_; rintro e V2 ⟨rfl, hbV2⟩; obtain ⟨hcV2, hfV2⟩ := bcell hbV2))
    have bel := bel_trans hV hbV2
    have hb := bel_trans (bel_alloc (bel_alloc (Below.refl _ w) (.cells (dscC d A1 A2 c1 c2) 24)) (.cells (tokC t A c) 27)) bel
    have bd := BD.out V2 bel
    have bt := BT.out V2 bel
    have y0 : V2.cell? ⟨w.heap.size, 0, none⟩ = some (.int .i64 d.o) := Box.cells bd 0; have y1 : V2.cell? ⟨w.heap.size, 1, none⟩ = some (.int .i64 d.g) := Box.cells bd 1; have y2 : V2.cell? ⟨w.heap.size, 2, none⟩ = some (.bool d.pr) := Box.cells bd 2; have y3 : V2.cell? ⟨w.heap.size, 3, none⟩ = some (.bool d.he) := Box.cells bd 3; have y4 : V2.cell? ⟨w.heap.size, 4, none⟩ = some (.slice A1 d.es.length c1) := Box.cells bd 4; have y5 : V2.cell? ⟨w.heap.size, 5, none⟩ = some (.slice A2 d.us.length c2) := Box.cells bd 5
    have z0 : V2.cell? ⟨w.heap.size + 1, 0, none⟩ = some (.int .i64 t.u) := Box.cells bt 0; have z1 : V2.cell? ⟨w.heap.size + 1, 1, none⟩ = some (.slice A t.gs.length c) := Box.cells bt 1; have z2 : V2.cell? ⟨w.heap.size + 1, 2, none⟩ = some (.int .i64 t.p) := Box.cells bt 2
    have l0 := bd.lt
    have l1 := bt.lt
    have HB0 := Lib.hid hb
    have BD := Lib.hid (fun W hW => bd.below (w' := W) hW)
    have BT := Lib.hid (fun W hW => bt.below (w' := W) hW)
    clear hcV hfV hcV2 hfV2 hV hbV2 bel hb bd bt
    (refine wp_region_flow [false, true, false, true, false, true, true, true, true, true, true] [⟨1, [], DscO d, false⟩, ⟨3, [], TokO t, false⟩, ⟨5, [], IntsO l, false⟩, ⟨6, [1, 3, 5], EqV (.tuple #[.int .i64 q1, .int .i64 q2]), false⟩, ⟨7, [6], EqV (.tuple #[.int .i64 q1, .int .i64 q2]), false⟩, ⟨8, [7], EqV (.int .i64 q1), false⟩, ⟨9, [7], EqV (.int .i64 q2), false⟩, ⟨10, [8], EqV (.int .i64 q1), false⟩] (by kernel_rfl) (by kernel_rfl) (by kernel_rfl) (by kernel_rfl) ?_; simp only [pick, List.length_cons, List.length_nil, List.drop_succ_cons, List.drop_zero, Nat.zero_add, Nat.reduceAdd]; apply Exists.intro; refine ⟨fun X hX => ?_, ?_⟩; (focus (obtain ⟨hcX, hfX⟩ := bcell hX; have hgX := regcell hX; have hsX := hX.size; (try simp only [World.size_alloc] at hsX); (repeat (go_big_quiet_step ((first | fail)))); exact wpQuiet_nil rfl)); simp only [wpND, told, toldAll, List.contains_cons, List.contains_nil, List.mem_cons, List.not_mem_nil, forall_eq_or_imp, false_implies, implies_true, and_true, Nat.reduceBEq, BEq.rfl, beq_self_eq_true, Bool.or_false, Bool.false_or, Bool.true_or, Bool.or_true, Bool.false_eq_true, if_true, if_false, true_implies, dstAt, List.getElem?_toArray, List.getElem?_cons_succ, List.getElem?_cons_zero, Option.some.injEq, forall_eq', Option.bind_some, Act.put, List.setIfInBounds_toArray, List.set_cons_succ, List.set_cons_zero])
    refine ⟨DscO.stable, fun X hX => ?_, fun v1 => ⟨TokO.stable, fun X hX => ?_, fun v3 => ⟨IntsO.stable, fun X hX => ?_, fun v5 => ⟨EqV.stable, fun X hX hf => ?_, fun v6 => ⟨EqV.stable, fun X hX hf => ?_, fun v7 => ⟨EqV.stable, fun X hX hf => ?_, fun v8 => ⟨EqV.stable, fun X hX hf => ?_, fun v9 => ⟨EqV.stable, fun X hX hf => ?_, fun v10 => fun X hX hf => ?_⟩⟩⟩⟩⟩⟩⟩⟩
    · exact leaf_dsc (c1 := c1) (c2 := c2) (by kernel_rfl) (by omega) (by omega) (HDT.out X (bel_trans HB0.out hX)).r1 (HDT.out X (bel_trans HB0.out hX)).r2
    · exact leaf_tok (c := c) (by kernel_rfl) (by omega) (HDT.out X (bel_trans HB0.out hX)).r3
    · exact leaf_ints (c := cB) (by kernel_rfl) (by omega) (HI.out X (bel_trans HB0.out hX))
    · (obtain ⟨⟨BI, kI, rfl, g4⟩, ⟨B, k, rfl, g3⟩, B1, B2, k1, k2, rfl, g1, g2⟩ := hf; refine leaves_call' (f := 21) (args := #[dscV d B1 B2 k1 k2, tokV t B k, .slice BI l.length kI]) (by kernel_rfl) ((HA.out B1 B2 B BI k1 k2 k kI X ((HDT.out X (bel_trans HB0.out hX)).copies (Below.refl _ _) g1 g2 g3) (by omega) g4).mono ?_); rintro e W1 ⟨rfl, hb⟩; exact ⟨_, rfl, hb, rfl⟩)
    · unfold EqV at hf; subst hf; exact leaves_pure' (by kernel_rfl) rfl
    · unfold EqV at hf; subst hf; exact leaves_pure' (by kernel_rfl) rfl
    · unfold EqV at hf; subst hf; exact leaves_pure' (by kernel_rfl) rfl
    · unfold EqV at hf; subst hf; exact leaves_pure' (by kernel_rfl) rfl
    obtain ⟨h8, h7, _⟩ := id hf
    unfold EqV at h8 h7
    subst h8 h7
    have hb := bel_trans HB0.out hX; have bd := BD.out X hX; have bt := BT.out X hX; clear y0 y1 y2 y3 y4 y5 z0 z1 z2 l0 l1 HB0 BD BT; have y0 : X.cell? ⟨w.heap.size, 0, none⟩ = some (.int .i64 d.o) := Box.cells bd 0; have y1 : X.cell? ⟨w.heap.size, 1, none⟩ = some (.int .i64 d.g) := Box.cells bd 1; have y2 : X.cell? ⟨w.heap.size, 2, none⟩ = some (.bool d.pr) := Box.cells bd 2; have y3 : X.cell? ⟨w.heap.size, 3, none⟩ = some (.bool d.he) := Box.cells bd 3; have y4 : X.cell? ⟨w.heap.size, 4, none⟩ = some (.slice A1 d.es.length c1) := Box.cells bd 4; have y5 : X.cell? ⟨w.heap.size, 5, none⟩ = some (.slice A2 d.us.length c2) := Box.cells bd 5; have z0 : X.cell? ⟨w.heap.size + 1, 0, none⟩ = some (.int .i64 t.u) := Box.cells bt 0; have z1 : X.cell? ⟨w.heap.size + 1, 1, none⟩ = some (.slice A t.gs.length c) := Box.cells bt 1; have z2 : X.cell? ⟨w.heap.size + 1, 2, none⟩ = some (.int .i64 t.p) := Box.cells bt 2; have l0 := bd.lt; have l1 := bt.lt; have HB0 := Lib.hid hb; have BD := Lib.hid (fun W hW => bd.below (w' := W) hW); have BT := Lib.hid (fun W hW => bt.below (w' := W) hW); clear hb bd bt hX hf
    by_cases h0 : e0 = 0
    · have g0 : botE d t = 0 := H1.out.symm.trans h0
      by_cases h9 : l.length = 9
      · have hck := ck_ok g0 h9
        have ho := dtO_of g0
        have HS := Lib.hid (fun W (hW : Below w.heap.size w W) => refDecided_any d t A1 A2 A c1 c2 c W (HDT.out W hW) ho)
        obtain ⟨L, hL⟩ : ∃ L, L = decP d t := ⟨_, rfl⟩
        have hL9 : L.length = 9 := by rw [hL]; simp [decP]
        rw [← hL] at HS hck
        unfold dscV tokV at HS
        have h9' : ((l.length : Int) != 9) = false := by simp; omega
        have HCK := Lib.hid hck
        have H9 := Lib.hid h9
        have HL9 := Lib.hid hL9
        subst h0
        clear g0 ho hL hck h9 hL9
        go_wp2_with (first | (go_at_call 16; refine (HE.out _ HB0.out).mono ?_; rintro e V3 ⟨rfl, hV3⟩; obtain ⟨hcV3, hfV3⟩ := bcell hV3; have ls3 : w.heap.size < V3.heap.size := (by have := hV3.size; omega); have lt3 : w.heap.size + 1 < V3.heap.size := (by have := hV3.size; omega); have hb := bel_trans HB0.out hV3) | (go_at_call 19; refine (HS.out _ hb).mono ?_; rintro e V5 ⟨AD, cD, rfl, oD, hV5⟩; have OD := Lib.hid oD; have hb := bel_trans hb hV5; clear oD))
        have HB5 := Lib.hid hb
        have RD := Lib.hid (fun W (hW : Below V5.heap.size V5 W) => (Rd.of_own OD.out).below' hW)
        have RI := Lib.hid (fun W (hW : Below V5.heap.size V5 W) => HI.out W (bel_trans HB5.out hW))
        clear y0 y1 y2 y3 y4 y5 z0 z1 z2 hb hV5 hV3 hcV3 hfV3 ls3 lt3 l0 l1
        go_loopw [11] (fun i wr => ∃ k : Nat, k ≤ l.length ∧ i = .int .i64 k ∧ Below V5.heap.size V5 wr ∧ eachE (dcdE L) 0 l = eachE (dcdE L) k (l.drop k)) (fun i _ => l.length - (intOf i).toNat)
        case atStart => exact ⟨0, Nat.zero_le _, rfl, Below.refl _ _, rfl⟩
        case round =>
          obtain ⟨k, hk, rfl, hb, hf⟩ := hrel
          have HF2 := Lib.hid hf
          clear hf
          have hlL : (L.length : Int) = 9 := by have := HL9.out; omega
          by_cases hlt : k < l.length
          · have hk9 : k < 9 := by have := H9.out; omega
            have hkL : k < L.length := by have := HL9.out; omega
            obtain ⟨b, o, rfl, hB, hcc⟩ := (RI.out wr hb).opened (by rw [List.length_map]; omega)
            obtain ⟨b2, o2, rfl, hB2, hcc2⟩ := (RD.out wr hb).opened (by rw [List.length_map]; omega)
            obtain ⟨n, hn⟩ : ∃ n, n = l[k] := ⟨_, rfl⟩
            obtain ⟨n2, hn2⟩ : ∃ n, n = L[k] := ⟨_, rfl⟩
            have c0 : wr.cell? ⟨b, o + k, none⟩ = some (.int .i64 n) := hcc _ _ (by rw [List.getElem?_map, List.getElem?_eq_getElem hlt, hn]; rfl)
            have cc0 : wr.cell? ⟨b2, o2 + k, none⟩ = some (.int .i64 n2) := hcc2 _ _ (by rw [List.getElem?_map, List.getElem?_eq_getElem hkL, hn2]; rfl)
            have hd : l.drop k = l[k] :: l.drop (k + 1) := List.drop_eq_getElem_cons hlt
            have hgd : L.getD k 0 = n2 := by rw [hn2, List.getD_eq_getElem?_getD, List.getElem?_eq_getElem hkL]; rfl
            have HG := Lib.hid (show dcdE L k l[k] = unl (n == n2) 19 by unfold dcdE; rw [hgd, ← hn])
            have HD := Lib.hid hd
            clear hd hn hn2 hcc hcc2 hgd
            by_cases hne : n = n2
            · subst hne
              have HG := Lib.hid (show dcdE L k l[k] = 0 by rw [HG.out]; simp [unl])
              go_wp2
              (refine wp_region_quiet_below (by kernel_rfl) (by kernel_rfl) ?_; (repeat (go_big_quiet_step ((first | fail)))); (with_reducible refine wpQuiet_nil ?_); intro W2 hreg; have hbW2 := below_of_reg hreg; clear hreg; obtain ⟨hcW2, hfW2⟩ := bcell hbW2)
              go_wp2
              go_roundw
              case rel => exact ⟨k + 1, by omega, by go_num, bel_trans hb hbW2, by rw [HF2.out, HD.out, eachE, if_pos HG.out]⟩
              case measure => simp [intOf]; omega
            · have hne' : (n != n2) = true := by simpa using hne
              have HG := Lib.hid (show dcdE L k l[k] = 19 by rw [HG.out, show (n == n2) = false by simpa using hne]; rfl)
              have hck : ckP d t l = ((k : Int), 19) := by rw [HCK.out, HF2.out, HD.out, eachE, if_neg (by rw [HG.out]; decide), HG.out]
              obtain rfl : q1 = k := by rw [H2.out, hck]
              obtain rfl : q2 = 19 := by rw [H3.out, hck]
              go_wp2
              (refine wp_region_quiet_below (by kernel_rfl) (by kernel_rfl) ?_; (repeat (go_big_quiet_step ((first | fail)))); (with_reducible refine wpQuiet_nil ?_); intro W2 hreg; have hbW2 := below_of_reg hreg; clear hreg; obtain ⟨hcW2, hfW2⟩ := bcell hbW2)
              go_wp2
              go_ret
              exact ⟨rfl, bel_trans HB5.out (bel_trans hb hbW2)⟩
          · have hck : ckP d t l = (0, 0) := by rw [HCK.out, HF2.out, List.drop_of_length_le (by omega)]; rfl
            obtain rfl : q1 = 0 := by rw [H2.out, hck]
            obtain rfl : q2 = 0 := by rw [H3.out, hck]
            have hk9 : k = 9 := by have := H9.out; omega
            subst hk9
            go_wp2
            go_ret
            exact ⟨rfl, bel_trans HB5.out hb⟩
      · have hck := ck_len g0 h9
        have h9' : ((l.length : Int) != 9) = true := by simp; omega
        obtain rfl : q1 = 0 := by rw [H2.out, hck]
        obtain rfl : q2 = 10 := by rw [H3.out, hck]
        have H9 := Lib.hid h9
        clear hck g0 h9
        subst h0
        go_wp2_with ((go_at_call 16; refine (HE.out _ HB0.out).mono ?_; rintro e V3 ⟨rfl, hbV3⟩; obtain ⟨hcV3, hfV3⟩ := bcell hbV3))
        go_ret
        exact ⟨rfl, bel_trans HB0.out hbV3⟩
    · have h0' : (e0 != 0) = true := by simpa using h0
      have h0'' : (e0 == 0) = false := by simpa using h0
      have hb : botE d t ≠ 0 := fun h => h0 (H1.out.trans h)
      have hck := ck_bad (l := l) hb
      obtain rfl : q1 = 0 := by rw [H2.out, hck]
      obtain rfl : q2 = e0 := by rw [H3.out, hck, H1.out]
      clear hb hck
      go_wp2_with ((go_at_call 16; refine (HE.out _ HB0.out).mono ?_; rintro e V3 ⟨rfl, hbV3⟩; obtain ⟨hcV3, hfV3⟩ := bcell hbV3))
      go_ret
      exact ⟨rfl, bel_trans HB0.out hbV3⟩
end Go.Proofs.YtanicpgmbhfipaaGreatDoor
