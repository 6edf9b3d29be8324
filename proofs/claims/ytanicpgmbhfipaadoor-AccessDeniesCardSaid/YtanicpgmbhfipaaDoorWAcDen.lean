/-
  Chapter 17: the law AccessDenies: its walk.
-/
import Derived.Test.YtanicpgmbhfipaaDoorAcCan
import Derived.Test.YtanicpgmbhfipaaDoorAcOwn
namespace Go.Proofs.YtanicpgmbhfipaaDoor
set_option linter.unusedVariables false
set_option linter.unusedSimpArgs false
open Go.RowKit Go.Sort

theorem Rd.prefix {w : World} {B : Nat} {A : Option Addr} {xs ys : List Value} (h : Rd w B A (xs ++ ys)) : Rd w B A xs := fun j u hj => h j u (by rw [List.getElem?_append_left (List.getElem?_eq_some_iff.1 hj).1]; exact hj)
theorem Rd.suffix {w : World} {B b o : Nat} {xs ys : List Value} (h : Rd w B (some ⟨b, o, none⟩) (xs ++ ys)) : Rd w B (some ⟨b, o + xs.length, none⟩) ys := fun j u hj => by
  obtain ⟨b', o', e, hb, hc⟩ := h (xs.length + j) u (by rw [List.getElem?_append_right (by omega), Nat.add_sub_cancel_left]; exact hj)
  injection e with e
  injection e with e1 e2
  subst e1 e2
  exact ⟨b, o + xs.length, rfl, hb, by rw [Nat.add_assoc]; exact hc⟩
theorem acesV_take (l : List AceP) (j : Nat) : acesV l = acesV (l.take j) ++ acesV (l.drop j) := by rw [← acesV_append, List.take_append_drop]
theorem Box.belowAt {w w' : World} {b B : Nat} {cs : Array Value} {T : TypeId} (h : Box w b cs T) (hb : Below B w w') (hlt : b < B) : Box w' b cs T := (hb.block b hlt).trans h
theorem ownsRow_one {w : World} {base : Nat} {e : TypeId} {size n : Nat} {v : Value} {xs : List Value} (h : w.ownsRow base e size v n xs) : v.oneCell' = true := by
  obtain ⟨A, c, rfl, _⟩ := ownsRow_form h; rfl
theorem ownsRow_kept {w w2 : World} {g0 base : Nat} {e : TypeId} {size n : Nat} {v : Value} {xs : List Value} (h : w.ownsRow base e size v n xs) (hk : ∀ b cs T, b ≠ g0 → Box w b cs T → Box w2 b cs T) (hlt : g0 < base) : w2.ownsRow base e size v n xs := by
  refine ⟨h.1, ?_⟩
  rcases h.2 with h' | ⟨g, cap, cur, h1, h2, h3, h4⟩
  · exact .inl h'
  · exact .inr ⟨g, cap, cur, h1, h2, hk g cur e (by omega) h3, h4⟩
theorem dropA_bot {d : DscP} {t : TokP} {i : Nat} (h : botE d t = 0) (hi : i < d.es.length) : botE (dropA d i) t = 0 := by
  obtain ⟨h1, h2⟩ := botE_zero h
  unfold botE
  rw [dropA_err h1 hi, h2]; rfl
/-- entries of one's own -/
def AcesW (B n : Nat) (l : List AceP) (v : Value) (X : World) : Prop := ∃ A c, v = .slice A n c ∧ X.ownsRow B 34 4 (.slice A n c) n (acesV l)
theorem AcesW.stable {B n : Nat} {l : List AceP} (v : Value) (X X' : World) (h : AcesW B n l v X) (hb : Below X.heap.size X X') : AcesW B n l v X' := by
  obtain ⟨A, c, h1, h2⟩ := h; exact ⟨A, c, h1, ownsRow_below h2 hb⟩
set_option maxRecDepth 100000 in
set_option maxHeartbeats 8000000 in
theorem wAccessDenies (d : DscP) (A1 A2 : Option Addr) (c1 c2 : Nat) (t : TokP) (A : Option Addr) (c : Nat) (w : World) (hr1 : Rd w w.heap.size A1 (acesV d.es)) (hr2 : Rd w w.heap.size A2 (acesV d.us)) (hec : d.es.length ≤ c1) (hcm : c1 ≤ maxLen) (hr3 : Rd w w.heap.size A (t.gs.map (.int .i64))) (hg : GrT w) :
    Calls Tryd.prog 3 #[dscV d A1 A2 c1 c2, tokV t A c] w fun e w' => e = .returned (.bool true) ∧ Below w.heap.size w w' := by
  have HF := Lib.hid (fun W => few_any d t A1 A2 A c1 c2 c W)
  have HW := Lib.hid (fun W (hW : Below w.heap.size w W) => awake17_any W (hg.below hW))
  have bD := (Box.new w (dscC d A1 A2 c1 c2) 24).old (.cells (tokC t A c) 27)
  have bT := Box.new (w.alloc (.cells (dscC d A1 A2 c1 c2) 24)) (tokC t A c) 27
  rw [World.size_alloc] at bT
  have BD := Lib.hid (fun W hW => bD.below (w' := W) hW)
  have BT := Lib.hid (fun W hW => bT.below (w' := W) hW)
  unfold dscC tokC at BD BT
  obtain ⟨fw, hfw⟩ : ∃ fw, fw = fewB d t := ⟨_, rfl⟩
  rw [← hfw] at HF
  cases fw
  · clear bD bT hr1 hr2 hr3 hg hfw hec hcm
    unfold dscV tokV at *
    go_enter Tryd.func3, Tryd.ntmps3
    go_wp2_with (first | (go_at_call 5; refine (HW.out _ (bel_alloc (bel_alloc (Below.refl _ _) _) _)).mono ?_; rintro e V ⟨rfl, hV⟩; obtain ⟨hcV, hfV⟩ := bcell hV) | (go_at_call 6; refine (HF.out _).mono ?_; rintro e V2 ⟨rfl, hbV2⟩; obtain ⟨hcV2, hfV2⟩ := bcell hbV2))
    go_ret
    exact ⟨rfl, by (repeat (first | assumption | exact Below.refl _ _ | refine bel_drewN ?_ _ | refine bel_alloc ?_ _ | refine bel_trans ?_ (by assumption) | refine Below.trans ?_ (by assumption)))⟩
  have hlen : d.es.length ≤ 20 ∧ d.us.length ≤ 20 ∧ t.gs.length ≤ 18 := by
    unfold fewB fewD at hfw
    simp at hfw
    omega
  have hdt : DT d t A1 A2 A w := ⟨by omega, by omega, by omega, hr1, hr2, hr3, hg⟩
  have HDT := Lib.hid (fun W (hW : Below w.heap.size w W) => hdt.below hW)
  have HE := Lib.hid (fun W (hW : Below w.heap.size w W) => bothErr_any d t A1 A2 A c1 c2 c W (HDT.out W hW))
  have HCAP := Lib.hid (And.intro hec hcm)
  clear bD bT hr1 hr2 hr3 hg hfw hec hcm hdt
  obtain ⟨e0, he0⟩ : ∃ e, e = botE d t := ⟨_, rfl⟩
  rw [← he0] at HE
  by_cases h0 : e0 = 0
  case neg =>
    have h0' : (e0 != 0) = true := by simpa using h0
    clear he0
    unfold dscV tokV at *
    go_enter Tryd.func3, Tryd.ntmps3
    go_wp2_with (first | (go_at_call 5; refine (HW.out _ (bel_alloc (bel_alloc (Below.refl _ _) _) _)).mono ?_; rintro e V ⟨rfl, hV⟩; obtain ⟨hcV, hfV⟩ := bcell hV) | ((go_at_call 6; refine (HF.out _).mono ?_; rintro e V2 ⟨rfl, hbV2⟩; obtain ⟨hcV2, hfV2⟩ := bcell hbV2); have hb := bel_trans (bel_alloc (bel_alloc (Below.refl _ w) (.cells (dscC d A1 A2 c1 c2) 24)) (.cells (tokC t A c) 27)) (bel_trans hV hbV2); have bd := BD.out V2 (bel_trans hV hbV2); have bt := BT.out V2 (bel_trans hV hbV2); have y0 : V2.cell? ⟨w.heap.size, 0, none⟩ = some (.int .i64 d.o) := Box.cells bd 0; have y1 : V2.cell? ⟨w.heap.size, 1, none⟩ = some (.int .i64 d.g) := Box.cells bd 1; have y2 : V2.cell? ⟨w.heap.size, 2, none⟩ = some (.bool d.pr) := Box.cells bd 2; have y3 : V2.cell? ⟨w.heap.size, 3, none⟩ = some (.bool d.he) := Box.cells bd 3; have y4 : V2.cell? ⟨w.heap.size, 4, none⟩ = some (.slice A1 d.es.length c1) := Box.cells bd 4; have y5 : V2.cell? ⟨w.heap.size, 5, none⟩ = some (.slice A2 d.us.length c2) := Box.cells bd 5; have z0 : V2.cell? ⟨w.heap.size + 1, 0, none⟩ = some (.int .i64 t.u) := Box.cells bt 0; have z1 : V2.cell? ⟨w.heap.size + 1, 1, none⟩ = some (.slice A t.gs.length c) := Box.cells bt 1; have z2 : V2.cell? ⟨w.heap.size + 1, 2, none⟩ = some (.int .i64 t.p) := Box.cells bt 2; have l0 := bd.lt; have l1 := bt.lt) | (go_at_call 7; refine (HE.out _ hb).mono ?_; rintro e V3 ⟨rfl, hbV3⟩; obtain ⟨hcV3, hfV3⟩ := bcell hbV3))
    go_ret
    exact ⟨rfl, bel_trans hb hbV3⟩
  have g0 : botE d t = 0 := he0.symm.trans h0
  have ho := dtO_of g0
  have HC := Lib.hid (fun W (hW : Below w.heap.size w W) => IsCanonical_any A1 c1 d.es W (by omega) (HDT.out W hW).r1 (fun a ha => ⟨(ho.1 a ha).1, (ho.1 a ha).2.1⟩))
  have G0 := Lib.hid g0
  have HO := Lib.hid ho
  subst h0
  clear he0 g0 ho
  unfold dscV tokV at HF HE
  unfold dscV tokV
  go_enter Tryd.func3, Tryd.ntmps3
  go_upto_if 34 with (first | (go_at_call 5; refine (HW.out _ (bel_alloc (bel_alloc (Below.refl _ _) _) _)).mono ?_; rintro e V ⟨rfl, hV⟩; obtain ⟨hcV, hfV⟩ := bcell hV) | ((go_at_call 6; refine (HF.out _).mono ?_; rintro e V2 ⟨rfl, hbV2⟩; obtain ⟨hcV2, hfV2⟩ := bcell hbV2); have hb2 := bel_trans (bel_alloc (bel_alloc (Below.refl _ w) (.cells (dscC d A1 A2 c1 c2) 24)) (.cells (tokC t A c) 27)) (bel_trans hV hbV2); have bd := BD.out V2 (bel_trans hV hbV2); have bt := BT.out V2 (bel_trans hV hbV2); have y0 : V2.cell? ⟨w.heap.size, 0, none⟩ = some (.int .i64 d.o) := Box.cells bd 0; have y1 : V2.cell? ⟨w.heap.size, 1, none⟩ = some (.int .i64 d.g) := Box.cells bd 1; have y2 : V2.cell? ⟨w.heap.size, 2, none⟩ = some (.bool d.pr) := Box.cells bd 2; have y3 : V2.cell? ⟨w.heap.size, 3, none⟩ = some (.bool d.he) := Box.cells bd 3; have y4 : V2.cell? ⟨w.heap.size, 4, none⟩ = some (.slice A1 d.es.length c1) := Box.cells bd 4; have y5 : V2.cell? ⟨w.heap.size, 5, none⟩ = some (.slice A2 d.us.length c2) := Box.cells bd 5; have z0 : V2.cell? ⟨w.heap.size + 1, 0, none⟩ = some (.int .i64 t.u) := Box.cells bt 0; have z1 : V2.cell? ⟨w.heap.size + 1, 1, none⟩ = some (.slice A t.gs.length c) := Box.cells bt 1; have z2 : V2.cell? ⟨w.heap.size + 1, 2, none⟩ = some (.int .i64 t.p) := Box.cells bt 2; have l0 := bd.lt; have l1 := bt.lt) | ((go_at_call 7; refine (HE.out _ hb2).mono ?_; rintro e V3 ⟨rfl, hbV3⟩; obtain ⟨hcV3, hfV3⟩ := bcell hbV3); have y4 : V3.cell? ⟨w.heap.size, 4, none⟩ = some (.slice A1 d.es.length c1) := (bd.below hbV3).cells 4; have l0 : w.heap.size < V3.heap.size := (bd.below hbV3).lt) | (go_at_call 8; refine (HC.out _ (bel_trans hb2 hbV3)).mono ?_; rintro e V4 ⟨bc, rfl, hcan, hV4⟩))
  have hb24 := bel_trans hbV3 hV4
  have hb4 := bel_trans hb2 hb24
  cases bc
  · clear hcan
    go_wp2
    go_ret
    exact ⟨rfl, hb4⟩
  have HCAN := Lib.hid (hcan rfl)
  have bd := bd.below hb24
  have bt := bt.below hb24
  clear BD BT
  have BD := Lib.hid (fun W hW => bd.below (w' := W) hW)
  have BT := Lib.hid (fun W hW => bt.below (w' := W) hW)
  have HB0 := Lib.hid hb4
  clear y0 y1 y2 y3 y4 y5 z0 z1 z2 l0 l1 hcan hbV3 hcV3 hfV3 hV4 hb24 hb4 hb2 hcV hfV hcV2 hfV2 hV hbV2 bd bt HW HC HF HE
  go_wp2
  go_loopw [5] (fun ix wr => ∃ j : Nat, j ≤ d.es.length ∧ ix = .int .i64 j ∧ Below V4.heap.size V4 wr ∧ ∀ i (h : i < d.es.length), i < j → bitI d.es[i].f 4 = false) (fun ix _ => d.es.length - (intOf ix).toNat)
  case atStart => exact ⟨0, Nat.zero_le _, rfl, Below.refl _ _, fun i h hi => by omega⟩
  case round =>
    obtain ⟨j, hj, rfl, hb, hf⟩ := hrel
    have bd1 := BD.out _ hb
    have y4 : wr.cell? ⟨w.heap.size, 4, none⟩ = some (.slice A1 d.es.length c1) := bd1.cells 4
    have l0 : w.heap.size < wr.heap.size := bd1.lt
    have hbw := bel_trans HB0.out hb
    by_cases hlt : j < d.es.length
    · have hre : Rd wr wr.heap.size A1 (acesV d.es) := (HDT.out wr hbw).r1
      obtain ⟨b, oo, rfl, hbb, hc⟩ := hre.opened (by rw [acesV_length]; omega)
      obtain ⟨g0, g1, g2, g3⟩ := acesV_get d.es j hlt
      have c1' : wr.cell? ⟨b, oo + j * 4 + 1, none⟩ = _ := hc _ _ g1
      have hoj := HO.out.1 _ (List.getElem_mem hlt)
      have HH := Lib.hid (fun W => refHas_any d.es[j].f 16 W hoj.1 (by have := hoj.2.1; omega) (by omega) (by omega))
      have e4 : (d.es[j].f / 16 % 2 == 1) = bitI d.es[j].f 4 := rfl
      rw [e4] at HH
      obtain ⟨x, hx⟩ : ∃ x, x = bitI d.es[j].f 4 := ⟨_, rfl⟩
      obtain ⟨f, hfl⟩ : ∃ x, x = d.es[j].f := ⟨_, rfl⟩
      rw [← hx] at HH
      rw [← hfl] at c1' HH
      have HB := Lib.hid hbw
      have HB2 := Lib.hid hb
      have HF := Lib.hid hf
      have HX := Lib.hid hx
      clear g0 g1 g2 g3 hc hre bd1 hoj e4 hx hfl hf hb hbw
      cases x
      · have hf2 : ∀ i (h : i < d.es.length), i < j + 1 → bitI d.es[i].f 4 = false := fun i h hi => by
          by_cases hij : i < j
          · exact HF.out i h hij
          · obtain rfl : i = j := by omega
            exact HX.out.symm
        have HF2 := Lib.hid hf2
        clear hf2
        go_wp2_with (go_at_call 9; refine (HH.out _).mono ?_; rintro e w' ⟨rfl, rfl⟩)
        go_roundw
        case rel =>
          repeat apply Exists.intro
          exact ⟨⟨j + 1, by omega, by go_num, HB2.out, HF2.out⟩, rfl⟩
        case measure => simp [intOf]; omega
      · go_wp2_with (go_at_call 9; refine (HH.out _).mono ?_; rintro e w' ⟨rfl, rfl⟩)
        go_ret
        exact ⟨rfl, HB.out⟩
    · have hn : ∀ a ∈ d.es, bitI a.f 4 = false := fun a ha => by
        obtain ⟨i, hi, rfl⟩ := List.getElem_of_mem ha
        exact hf i hi (by omega)
      have HN := Lib.hid hn
      have bd := BD.out _ hb
      have bt := BT.out _ hb
      clear BD BT
      have HB0 := Lib.hid hbw
      have BD := Lib.hid (fun W hW => bd.below (w' := W) hW)
      have BT := Lib.hid (fun W hW => bt.below (w' := W) hW)
      clear y4 l0
      have y0 : wr.cell? ⟨w.heap.size, 0, none⟩ = some (.int .i64 d.o) := Box.cells bd 0; have y1 : wr.cell? ⟨w.heap.size, 1, none⟩ = some (.int .i64 d.g) := Box.cells bd 1; have y2 : wr.cell? ⟨w.heap.size, 2, none⟩ = some (.bool d.pr) := Box.cells bd 2; have y3 : wr.cell? ⟨w.heap.size, 3, none⟩ = some (.bool d.he) := Box.cells bd 3; have y4 : wr.cell? ⟨w.heap.size, 4, none⟩ = some (.slice A1 d.es.length c1) := Box.cells bd 4; have y5 : wr.cell? ⟨w.heap.size, 5, none⟩ = some (.slice A2 d.us.length c2) := Box.cells bd 5
      have z0 : wr.cell? ⟨w.heap.size + 1, 0, none⟩ = some (.int .i64 t.u) := Box.cells bt 0; have z1 : wr.cell? ⟨w.heap.size + 1, 1, none⟩ = some (.slice A t.gs.length c) := Box.cells bt 1; have z2 : wr.cell? ⟨w.heap.size + 1, 2, none⟩ = some (.int .i64 t.p) := Box.cells bt 2
      have l0 := bd.lt
      have l1 := bt.lt
      obtain ⟨L, hL⟩ : ∃ L, L = decP d t := ⟨_, rfl⟩
      obtain ⟨n0, hn0⟩ : ∃ n, n = rgtP d t := ⟨_, rfl⟩
      have HDB := Lib.hid (fun B1 B2 B k1 k2 k W h => DecidedBy_any d t B1 B2 B k1 k2 k W h)
      have HRF := Lib.hid (fun B1 B2 B k1 k2 k W h => RightsFor_any d t B1 B2 B k1 k2 k W h)
      rw [G0.out, if_pos rfl, ← hL] at HDB
      rw [G0.out, if_pos rfl, ← hn0] at HRF
      have HL := Lib.hid hL
      have HN0 := Lib.hid hn0
      have hL9 : (L.length : Int) = 9 := by rw [hL]; simp [decP]
      have HL9 := Lib.hid hL9
      clear hn hf hb hbw bd bt hL hn0 bd1 hL9
      go_wp2
      (refine wp_region_flow [false, true, false, true, true, true, true, true, true] [⟨1, [], DscO d, false⟩, ⟨3, [], TokO t, false⟩, ⟨4, [1, 3], (RowT w.heap.size L 0), false⟩, ⟨5, [4], (RowT w.heap.size L 0), false⟩, ⟨6, [5], (RowS w.heap.size L), false⟩, ⟨7, [5], EqV (.int .i64 0), false⟩, ⟨8, [6], (RowS w.heap.size L), false⟩] (by kernel_rfl) (by kernel_rfl) (by kernel_rfl) (by kernel_rfl) ?_; simp only [pick, List.length_cons, List.length_nil, List.drop_succ_cons, List.drop_zero, Nat.zero_add, Nat.reduceAdd]; apply Exists.intro; refine ⟨fun X hX => ?_, ?_⟩; (focus (obtain ⟨hcX, hfX⟩ := bcell hX; have hgX := regcell hX; have hsX := hX.size; (try simp only [World.size_alloc] at hsX); (repeat (go_big_quiet_step ((first | fail)))); exact wpQuiet_nil rfl)); simp only [wpND, told, toldAll, List.contains_cons, List.contains_nil, List.mem_cons, List.not_mem_nil, forall_eq_or_imp, false_implies, implies_true, and_true, Nat.reduceBEq, BEq.rfl, beq_self_eq_true, Bool.or_false, Bool.false_or, Bool.true_or, Bool.or_true, Bool.false_eq_true, if_true, if_false, true_implies, dstAt, List.getElem?_toArray, List.getElem?_cons_succ, List.getElem?_cons_zero, Option.some.injEq, forall_eq', Option.bind_some, Act.put, List.setIfInBounds_toArray, List.set_cons_succ, List.set_cons_zero])
      refine ⟨DscO.stable, fun X hX => ?_, fun v1 => ⟨TokO.stable, fun X hX => ?_, fun v3 => ⟨RowT.stable, fun X hX hf => ?_, fun v4 => ⟨RowT.stable, fun X hX hf => ?_, fun v5 => ⟨RowS.stable, fun X hX hf => ?_, fun v6 => ⟨EqV.stable, fun X hX hf => ?_, fun v7 => ⟨RowS.stable, fun X hX hf => ?_, fun v8 => fun X hX hf => ?_⟩⟩⟩⟩⟩⟩⟩
      · exact leaf_dsc (c1 := c1) (c2 := c2) (by kernel_rfl) (by omega) (by omega) (HDT.out X (bel_trans HB0.out hX)).r1 (HDT.out X (bel_trans HB0.out hX)).r2
      · exact leaf_tok (c := c) (by kernel_rfl) (by omega) (HDT.out X (bel_trans HB0.out hX)).r3
      · (obtain ⟨⟨B, k, rfl, g3⟩, B1, B2, k1, k2, rfl, g1, g2⟩ := hf; refine leaves_call' (f := 10) (args := #[dscV d B1 B2 k1 k2, tokV t B k]) (by kernel_rfl) ((HDB.out B1 B2 B k1 k2 k X ((HDT.out X (bel_trans HB0.out hX)).copies (Below.refl _ _) g1 g2 g3)).mono ?_); rintro e W1 ⟨Ao, co, rfl, ho, hb⟩; exact ⟨_, rfl, hb, Ao, co, rfl, ownsRow_mono ho (bel_trans HB0.out hX).size⟩)
      · obtain ⟨Ao, co, rfl, ho⟩ := hf; exact leaves_pure' (by kernel_rfl) ⟨Ao, co, rfl, ho⟩
      · obtain ⟨Ao, co, rfl, ho⟩ := hf; exact leaves_pure' (by kernel_rfl) ⟨Ao, co, rfl, ho⟩
      · obtain ⟨Ao, co, rfl, ho⟩ := hf; exact leaves_pure' (by kernel_rfl) rfl
      · obtain ⟨Ao, co, rfl, ho⟩ := hf; exact leaves_pure' (by kernel_rfl) ⟨Ao, co, rfl, ho⟩
      obtain ⟨h8, h7, _⟩ := id hf
      obtain ⟨Ao, co, rfl, ho⟩ := h8
      unfold EqV at h7
      subst h7
      have OL := Lib.hid ho
      have hb := bel_trans HB0.out hX; have bd := BD.out X hX; have bt := BT.out X hX; clear y0 y1 y2 y3 y4 y5 z0 z1 z2 l0 l1 HB0 BD BT; have y0 : X.cell? ⟨w.heap.size, 0, none⟩ = some (.int .i64 d.o) := Box.cells bd 0; have y1 : X.cell? ⟨w.heap.size, 1, none⟩ = some (.int .i64 d.g) := Box.cells bd 1; have y2 : X.cell? ⟨w.heap.size, 2, none⟩ = some (.bool d.pr) := Box.cells bd 2; have y3 : X.cell? ⟨w.heap.size, 3, none⟩ = some (.bool d.he) := Box.cells bd 3; have y4 : X.cell? ⟨w.heap.size, 4, none⟩ = some (.slice A1 d.es.length c1) := Box.cells bd 4; have y5 : X.cell? ⟨w.heap.size, 5, none⟩ = some (.slice A2 d.us.length c2) := Box.cells bd 5; have z0 : X.cell? ⟨w.heap.size + 1, 0, none⟩ = some (.int .i64 t.u) := Box.cells bt 0; have z1 : X.cell? ⟨w.heap.size + 1, 1, none⟩ = some (.slice A t.gs.length c) := Box.cells bt 1; have z2 : X.cell? ⟨w.heap.size + 1, 2, none⟩ = some (.int .i64 t.p) := Box.cells bt 2; have l0 := bd.lt; have l1 := bt.lt; have HB0 := Lib.hid hb; have BD := Lib.hid (fun W hW => bd.below (w' := W) hW); have BT := Lib.hid (fun W hW => bt.below (w' := W) hW); clear hb bd bt hX hf
      go_wp2
      clear ho
      (refine wp_region_flow [false, true, false, true, true, true, true, true, true] [⟨1, [], DscO d, false⟩, ⟨3, [], TokO t, false⟩, ⟨4, [1, 3], EqV (.tuple #[.int .i64 n0, .int .i64 0]), false⟩, ⟨5, [4], EqV (.tuple #[.int .i64 n0, .int .i64 0]), false⟩, ⟨6, [5], EqV (.int .i64 n0), false⟩, ⟨7, [5], EqV (.int .i64 0), false⟩, ⟨8, [6], EqV (.int .i64 n0), false⟩] (by kernel_rfl) (by kernel_rfl) (by kernel_rfl) (by kernel_rfl) ?_; simp only [pick, List.length_cons, List.length_nil, List.drop_succ_cons, List.drop_zero, Nat.zero_add, Nat.reduceAdd]; apply Exists.intro; refine ⟨fun X hX => ?_, ?_⟩; (focus (obtain ⟨hcX, hfX⟩ := bcell hX; have hgX := regcell hX; have hsX := hX.size; (try simp only [World.size_alloc] at hsX); (repeat (go_big_quiet_step ((first | fail)))); exact wpQuiet_nil rfl)); simp only [wpND, told, toldAll, List.contains_cons, List.contains_nil, List.mem_cons, List.not_mem_nil, forall_eq_or_imp, false_implies, implies_true, and_true, Nat.reduceBEq, BEq.rfl, beq_self_eq_true, Bool.or_false, Bool.false_or, Bool.true_or, Bool.or_true, Bool.false_eq_true, if_true, if_false, true_implies, dstAt, List.getElem?_toArray, List.getElem?_cons_succ, List.getElem?_cons_zero, Option.some.injEq, forall_eq', Option.bind_some, Act.put, List.setIfInBounds_toArray, List.set_cons_succ, List.set_cons_zero])
      refine ⟨DscO.stable, fun X hX => ?_, fun v1 => ⟨TokO.stable, fun X hX => ?_, fun v3 => ⟨EqV.stable, fun X hX hf => ?_, fun v4 => ⟨EqV.stable, fun X hX hf => ?_, fun v5 => ⟨EqV.stable, fun X hX hf => ?_, fun v6 => ⟨EqV.stable, fun X hX hf => ?_, fun v7 => ⟨EqV.stable, fun X hX hf => ?_, fun v8 => fun X hX hf => ?_⟩⟩⟩⟩⟩⟩⟩
      · exact leaf_dsc (c1 := c1) (c2 := c2) (by kernel_rfl) (by omega) (by omega) (HDT.out X (bel_trans HB0.out hX)).r1 (HDT.out X (bel_trans HB0.out hX)).r2
      · exact leaf_tok (c := c) (by kernel_rfl) (by omega) (HDT.out X (bel_trans HB0.out hX)).r3
      · (obtain ⟨⟨B, k, rfl, g3⟩, B1, B2, k1, k2, rfl, g1, g2⟩ := hf; refine leaves_call' (f := 13) (args := #[dscV d B1 B2 k1 k2, tokV t B k]) (by kernel_rfl) ((HRF.out B1 B2 B k1 k2 k X ((HDT.out X (bel_trans HB0.out hX)).copies (Below.refl _ _) g1 g2 g3)).mono ?_); rintro e W1 ⟨rfl, hb⟩; exact ⟨_, rfl, hb, rfl⟩)
      · unfold EqV at hf; subst hf; exact leaves_pure' (by kernel_rfl) rfl
      · unfold EqV at hf; subst hf; exact leaves_pure' (by kernel_rfl) rfl
      · unfold EqV at hf; subst hf; exact leaves_pure' (by kernel_rfl) rfl
      · unfold EqV at hf; subst hf; exact leaves_pure' (by kernel_rfl) rfl
      obtain ⟨h8, h7, _⟩ := id hf
      unfold EqV at h8 h7
      subst h8 h7
      have OL := Lib.hid (ownsRow_below OL.out hX)
      have hb := bel_trans HB0.out hX; have bd := BD.out X hX; have bt := BT.out X hX; clear y0 y1 y2 y3 y4 y5 z0 z1 z2 l0 l1 HB0 BD BT; have y0 : X.cell? ⟨w.heap.size, 0, none⟩ = some (.int .i64 d.o) := Box.cells bd 0; have y1 : X.cell? ⟨w.heap.size, 1, none⟩ = some (.int .i64 d.g) := Box.cells bd 1; have y2 : X.cell? ⟨w.heap.size, 2, none⟩ = some (.bool d.pr) := Box.cells bd 2; have y3 : X.cell? ⟨w.heap.size, 3, none⟩ = some (.bool d.he) := Box.cells bd 3; have y4 : X.cell? ⟨w.heap.size, 4, none⟩ = some (.slice A1 d.es.length c1) := Box.cells bd 4; have y5 : X.cell? ⟨w.heap.size, 5, none⟩ = some (.slice A2 d.us.length c2) := Box.cells bd 5; have z0 : X.cell? ⟨w.heap.size + 1, 0, none⟩ = some (.int .i64 t.u) := Box.cells bt 0; have z1 : X.cell? ⟨w.heap.size + 1, 1, none⟩ = some (.slice A t.gs.length c) := Box.cells bt 1; have z2 : X.cell? ⟨w.heap.size + 1, 2, none⟩ = some (.int .i64 t.p) := Box.cells bt 2; have l0 := bd.lt; have l1 := bt.lt; have HB0 := Lib.hid hb; have BD := Lib.hid (fun W hW => bd.below (w' := W) hW); have BT := Lib.hid (fun W hW => bt.below (w' := W) hW); clear hb bd bt hX hf
      have hL9 := HL9.out
      have hLL : L.length = 9 := by omega
      obtain ⟨bo, po, rfl, hBo, hco⟩ := (Rd.of_own OL.out).opened (by rw [List.length_map]; omega)
      obtain ⟨X1, hX1⟩ : ∃ x, x = X := ⟨_, rfl⟩
      subst hX1
      have HLL := Lib.hid hLL
      have hBB := Lib.hid hBo
      clear hco hBo
      go_wp2
      clear y0 y1 y2 y3 y4 y5 z0 z1 z2 l0 l1 hL9 hLL
      go_loopw [10] (fun ix wr => ∃ j : Nat, j ≤ d.es.length ∧ ix = .int .i64 j ∧ Below X1.heap.size X1 wr) (fun ix _ => d.es.length - (intOf ix).toNat)
      case atStart => exact ⟨0, Nat.zero_le _, rfl, Below.refl _ _⟩
      case round =>
        obtain ⟨j, hj, rfl, hb⟩ := hrel
        obtain ⟨wq, hwq⟩ : ∃ x, x = wr := ⟨_, rfl⟩
        subst hwq
        have bd1 := BD.out _ hb
        have bt1 := BT.out _ hb
        have y4 : wq.cell? ⟨w.heap.size, 4, none⟩ = some (.slice A1 d.es.length c1) := bd1.cells 4
        have z0 : wq.cell? ⟨w.heap.size + 1, 0, none⟩ = some (.int .i64 t.u) := Box.cells bt1 0; have z1 : wq.cell? ⟨w.heap.size + 1, 1, none⟩ = some (.slice A t.gs.length c) := Box.cells bt1 1; have z2 : wq.cell? ⟨w.heap.size + 1, 2, none⟩ = some (.int .i64 t.p) := Box.cells bt1 2
        have l0 : w.heap.size < wq.heap.size := bd1.lt
        have l1 : w.heap.size + 1 < wq.heap.size := bt1.lt
        have hbw := bel_trans HB0.out hb
        by_cases hlt : j < d.es.length
        · have hre : Rd wq wq.heap.size A1 (acesV d.es) := (HDT.out wq hbw).r1
          obtain ⟨b, oo, rfl, hbb, hc⟩ := hre.opened (by rw [acesV_length]; omega)
          obtain ⟨g0, g1, g2, g3⟩ := acesV_get d.es j hlt
          have cc0 : wq.cell? ⟨b, oo + j * 4, none⟩ = _ := hc _ _ g0
          have cc1 : wq.cell? ⟨b, oo + j * 4 + 1, none⟩ = _ := hc _ _ g1
          have cc2 : wq.cell? ⟨b, oo + j * 4 + 1 + 1, none⟩ = _ := hc _ _ g2
          have cc3 : wq.cell? ⟨b, oo + j * 4 + 1 + 1 + 1, none⟩ = _ := hc _ _ g3
          have hoj := HO.out.1 _ (List.getElem_mem hlt)
          obtain ⟨a, ha⟩ : ∃ a, a = d.es[j] := ⟨_, rfl⟩
          rw [← ha] at cc0 cc1 cc2 cc3 hoj
          have HH := Lib.hid (fun W => refHas_any a.f 8 W hoj.1 (by have := hoj.2.1; omega) (by omega) (by omega))
          have e3 : (a.f / 8 % 2 == 1) = bitI a.f 3 := rfl
          rw [e3] at HH
          obtain ⟨x1, hx1⟩ : ∃ x, x = bitI a.f 3 := ⟨_, rfl⟩
          obtain ⟨x2, hx2⟩ : ∃ x, x = isT t a.w := ⟨_, rfl⟩
          have HIS := Lib.hid (fun W (hW : Below w.heap.size w W) => Is_any t A c a.w W (by omega) (HDT.out W hW).r3)
          rw [← hx1] at HH
          rw [← hx2] at HIS
          unfold tokV at HIS
          have HX := Lib.hid (And.intro hx1 (And.intro hx2 ha))
          have HAO := Lib.hid hoj
          have HB2 := Lib.hid hb
          have HBW := Lib.hid hbw
          have HRE := Lib.hid hre
          clear e3 hx1 hx2 ha hoj hb hbw hre g0 g1 g2 g3 hc bd1 bt1
          by_cases hk : a.k = 1
          case neg =>
            have hk' : (a.k != 1) = true := by simpa using hk
            go_wp2
            go_roundw
            case rel =>
              first
                | exact ⟨j + 1, by omega, by go_num, bel_alloc HB2.out _⟩
                | (repeat apply Exists.intro); exact ⟨⟨j + 1, by omega, by go_num, bel_alloc HB2.out _⟩, rfl⟩
            case measure => simp [intOf]; omega
          case pos =>
          have hk' : (a.k != 1) = false := by simpa using hk
          have HK := Lib.hid hk
          clear hk
          cases x1
          case true =>
            go_wp2_with (go_at_call 9; refine (HH.out _).mono ?_; rintro e w' ⟨rfl, rfl⟩)
            go_roundw
            case rel =>
              first
                | exact ⟨j + 1, by omega, by go_num, bel_alloc HB2.out _⟩
                | (repeat apply Exists.intro); exact ⟨⟨j + 1, by omega, by go_num, bel_alloc HB2.out _⟩, rfl⟩
            case measure => simp [intOf]; omega
          cases x2
          case false =>
            go_wp2_with (first | (go_at_call 9; refine (HH.out _).mono ?_; rintro e w' ⟨rfl, rfl⟩) | (go_at_call 14; refine (HIS.out _ (bel_alloc HBW.out _)).mono ?_; rintro e W1 ⟨rfl, hbW1⟩; obtain ⟨hcW1, hfW1⟩ := bcell hbW1))
            go_roundw
            case rel =>
              first
                | exact ⟨j + 1, by omega, by go_num, bel_trans (bel_alloc HB2.out _) hbW1⟩
                | (repeat apply Exists.intro); exact ⟨⟨j + 1, by omega, by go_num, bel_trans (bel_alloc HB2.out _) hbW1⟩, rfl⟩
            case measure => simp [intOf]; omega
          have bA := Box.new wq #[.int .i64 a.k, .int .i64 a.f, .int .i64 a.m, .int .i64 a.w] 34
          have BA := Lib.hid bA
          clear bA
          go_wp2_with (first | (go_at_call 9; refine (HH.out _).mono ?_; rintro e w' ⟨rfl, rfl⟩) | (go_at_call 14; refine (HIS.out _ (bel_alloc HBW.out _)).mono ?_; rintro e W1 ⟨rfl, hbW1⟩; obtain ⟨hcW1, hfW1⟩ := bcell hbW1))
          have bA1 := BA.out.below hbW1
          have HBA := Lib.hid (fun W hW => bA1.below (w' := W) hW)
          have HB1 := Lib.hid (bel_trans (bel_alloc HB2.out (.cells #[.int .i64 a.k, .int .i64 a.f, .int .i64 a.m, .int .i64 a.w] 34)) hbW1)
          clear y4 z0 z1 z2 l0 l1 cc0 cc1 cc2 cc3 hcW1 hfW1 hbW1 bA1 BA HRE HH HIS
          go_loopw [12] (fun ix wr => ∃ k : Nat, k ≤ 9 ∧ ix = .int .i64 k ∧ Below W1.heap.size W1 wr) (fun ix _ => 9 - (intOf ix).toNat)
          case atStart => exact ⟨0, Nat.zero_le _, rfl, Below.refl _ _⟩
          case round =>
            obtain ⟨k, hk9, rfl, hbv⟩ := hrel
            have bav := HBA.out wr hbv
            have m2 : wr.cell? ⟨wq.heap.size, 2, none⟩ = some (.int .i64 a.m) := bav.cells 2
            have lv := bav.lt
            by_cases hk : k < 9
            · have hp := pow_cases k hk
              obtain ⟨rn0, rn1⟩ := rgtP_bd d t
              rw [← HN0.out] at rn0 rn1
              have HP := Lib.hid (fun W => Power9_any k hk W)
              have HM := Lib.hid (fun W => refHas_any a.m ((2 : Int) ^ k) W HAO.out.2.2.1 (by have := HAO.out.2.2.2; omega) hp.2.2.2.1 hp.2.2.2.2)
              have HNN := Lib.hid (fun W => refHas_any n0 ((2 : Int) ^ k) W rn0 (by omega) hp.2.2.2.1 hp.2.2.2.2)
              have e1 : (a.m / (2 : Int) ^ k % 2 == 1) = bitI a.m k := rfl
              have e2 : (n0 / (2 : Int) ^ k % 2 == 1) = bitI n0 k := rfl
              rw [e1] at HM
              rw [e2] at HNN
              obtain ⟨u1, hu1⟩ : ∃ u, u = bitI a.m k := ⟨_, rfl⟩
              obtain ⟨u2, hu2⟩ : ∃ u, u = bitI n0 k := ⟨_, rfl⟩
              rw [← hu1] at HM
              rw [← hu2] at HNN
              obtain ⟨pw, hpw⟩ : ∃ p, p = (2 : Int) ^ k := ⟨_, rfl⟩
              rw [← hpw] at HP HM HNN
              have hLk : k < L.length := by rw [HLL.out]; exact hk
              have hq : L[k] = byP d t k := by
                have := HL.out
                subst this
                simp [decP]
              obtain ⟨b2, o2, e, hb2, hc2⟩ := (Rd.of_own (ownsRow_below OL.out (bel_trans HB1.out hbv))) k (.int .i64 L[k]) (by simp [hLk])
              injection e with e
              injection e with e3 e4
              subst e3 e4
              obtain ⟨q, hqq⟩ : ∃ q, q = L[k] := ⟨_, rfl⟩
              rw [← hqq] at hc2 hq
              have HQ := Lib.hid hq
              have HU := Lib.hid (And.intro hu1 hu2)
              have HBV := Lib.hid hbv
              have hkL : (k : Int) < 9 := by omega
              have hkL2 : (k : Int) < (L.length : Int) := by omega
              clear e1 e2 hu1 hu2 hpw hq hqq hp rn0 rn1 hbv bav
              cases u1
              case false =>
                go_wp2_with (first | (go_at_call 15; refine (HP.out _).mono ?_; rintro e w' ⟨rfl, rfl⟩) | (go_at_call 9; (with_reducible refine (HM.out _).mono ?_); rintro e w' ⟨rfl, rfl⟩))
                go_roundw
                case rel =>
                  first
                    | exact ⟨k + 1, by omega, by go_num, HBV.out⟩
                    | (repeat apply Exists.intro); exact ⟨⟨k + 1, by omega, by go_num, HBV.out⟩, rfl⟩
                case measure => simp [intOf]; omega
              cases u2
              case false =>
                go_wp2_with (first | (go_at_call 15; refine (HP.out _).mono ?_; rintro e w' ⟨rfl, rfl⟩) | (go_at_call 9; (with_reducible refine (HM.out _).mono ?_); rintro e w' ⟨rfl, rfl⟩) | (go_at_call 9; (with_reducible refine (HNN.out _).mono ?_); rintro e w' ⟨rfl, rfl⟩))
                go_roundw
                case rel =>
                  first
                    | exact ⟨k + 1, by omega, by go_num, HBV.out⟩
                    | (repeat apply Exists.intro); exact ⟨⟨k + 1, by omega, by go_num, HBV.out⟩, rfl⟩
                case measure => simp [intOf]; omega
              have hneg : q < 0 := by
                have hak : d.es[j].k = 1 := by rw [← HX.out.2.2]; exact HK.out
                have hit : hitB t k d.es[j] = true := by
                  rw [← HX.out.2.2]
                  unfold hitB cntB
                  rw [← HX.out.1, ← HX.out.2.1, ← HU.out.1]; rfl
                rw [HQ.out]
                exact denied_first HCAN.out HN.out hlt hk hak hit (by rw [← HN0.out]; exact HU.out.2.symm)
              go_wp2_with (first | (go_at_call 15; refine (HP.out _).mono ?_; rintro e w' ⟨rfl, rfl⟩) | (go_at_call 9; (with_reducible refine (HM.out _).mono ?_); rintro e w' ⟨rfl, rfl⟩) | (go_at_call 9; (with_reducible refine (HNN.out _).mono ?_); rintro e w' ⟨rfl, rfl⟩))
              go_roundw
              case rel =>
                first
                  | exact ⟨k + 1, by omega, by go_num, HBV.out⟩
                  | (repeat apply Exists.intro); exact ⟨⟨k + 1, by omega, by go_num, HBV.out⟩, rfl⟩
              case measure => simp [intOf]; omega
            · have hv := bel_trans HB1.out hbv
              have bd := BD.out _ hv
              have y0 : wr.cell? ⟨w.heap.size, 0, none⟩ = some (.int .i64 d.o) := Box.cells bd 0; have y1 : wr.cell? ⟨w.heap.size, 1, none⟩ = some (.int .i64 d.g) := Box.cells bd 1; have y2 : wr.cell? ⟨w.heap.size, 2, none⟩ = some (.bool d.pr) := Box.cells bd 2; have y3 : wr.cell? ⟨w.heap.size, 3, none⟩ = some (.bool d.he) := Box.cells bd 3; have y4 : wr.cell? ⟨w.heap.size, 4, none⟩ = some (.slice (some ⟨b, oo, none⟩) d.es.length c1) := Box.cells bd 4; have y5 : wr.cell? ⟨w.heap.size, 5, none⟩ = some (.slice A2 d.us.length c2) := Box.cells bd 5
              have l0 := bd.lt
              have HBV := Lib.hid (bel_trans HB0.out hv)
              have HV := Lib.hid hv
              have HCD := Lib.hid (fun W (hW : Below w.heap.size w W) => CopyDsc_own d (some ⟨b, oo, none⟩) A2 c1 c2 W (by omega) (by omega) (HDT.out W hW).r1 (HDT.out W hW).r2)
              unfold dscV at HCD
              clear m2 lv bav bd hv hbv
              go_upto_region 26 with (first | (go_at_call 11; refine (HCD.out _ HBV.out).mono ?_; rintro e V5 ⟨B1, B2, k1, k2, rfl, ho1, ho2, hV5⟩) | (refine wpList_store_new rfl 24 (.tmp 14) (.tmp 126) rfl rfl V5.heap.size #[.int .i64 d.o, .int .i64 d.g, .bool d.pr, .bool d.he, .slice B1 d.es.length k1, .slice B2 d.us.length k2] rfl rfl V5 (bel_alloc (Below.refl _ _) _) (Nat.le_refl _) 24 _ (Box.new V5 _ _) (by kernel_rfl) (by kernel_rfl) (by kernel_rfl) ?_; intro W6 hb6 bx6 keep6))
              have hv6 := bel_trans hV5 hb6
              have bd := BD.out W6 (bel_trans HV.out hv6)
              have bt := BT.out V5 (bel_trans HV.out hV5)
              clear y0 y1 y2 y3 y4 y5 l0 keep6
              have y4 : W6.cell? ⟨w.heap.size, 4, none⟩ = some (.slice (some ⟨b, oo, none⟩) d.es.length c1) := bd.cells 4
              have l0 := bd.lt
              have HB6 := Lib.hid (bel_trans HBV.out hv6)
              have HV6 := Lib.hid (bel_trans HV.out hv6)
              have BX := Lib.hid (fun W hW => bx6.below (w' := W) hW)
              have bx6lt := Lib.hid bx6.lt
              have BT := Lib.hid (fun W hW => bt.below (w' := W) hW)
              have HR2 := Lib.hid (Rd.of_own ho2)
              have HB56 := Lib.hid hb6
              have HV5 := Lib.hid hV5
              obtain ⟨hec, hcm⟩ := HCAP.out
              unfold maxLen at hcm
              have hjc : j ≤ c1 := by omega
              have hjc2 : j + 1 ≤ d.es.length := by omega
              have htl : (d.es.take j).length = j := by rw [List.length_take]; omega
              have HTL := Lib.hid htl
              clear bd bt hv6 hb6 bx6 ho1 ho2 hV5 htl
              (refine wp_region_flow [false, false, false, false, true, false, false, false, false, false] [⟨4, [], AcesW W6.heap.size j (d.es.take j), false⟩] (by kernel_rfl) (by kernel_rfl) (by kernel_rfl) (by kernel_rfl) ?_; simp only [pick, List.length_cons, List.length_nil, List.drop_succ_cons, List.drop_zero, Nat.zero_add, Nat.reduceAdd]; apply Exists.intro; refine ⟨fun X hX => ?_, ?_⟩; (focus (obtain ⟨hcX, hfX⟩ := bcell hX; have hgX := regcell hX; have hsX := hX.size; (try simp only [World.size_alloc] at hsX); (repeat (go_big_quiet_step ((first | fail)))); exact wpQuiet_nil rfl)); simp only [wpND, told, toldAll, List.contains_cons, List.contains_nil, List.mem_cons, List.not_mem_nil, forall_eq_or_imp, false_implies, implies_true, and_true, Nat.reduceBEq, BEq.rfl, beq_self_eq_true, Bool.or_false, Bool.false_or, Bool.true_or, Bool.or_true, Bool.false_eq_true, if_true, if_false, true_implies, dstAt, List.getElem?_toArray, List.getElem?_cons_succ, List.getElem?_cons_zero, Option.some.injEq, forall_eq', Option.bind_some, Act.put, List.setIfInBounds_toArray, List.set_cons_succ, List.set_cons_zero])
              refine ⟨AcesW.stable, fun X hX => ?_, fun v4 X hX hf => ?_⟩
              · have hr := (HDT.out X (bel_trans HB6.out hX)).r1
                rw [acesV_take d.es j] at hr
                have hca := CopyAces_it (some ⟨b, oo, none⟩) c1 (d.es.take j) X (by rw [HTL.out]; omega) hr.prefix
                rw [HTL.out] at hca
                refine leaves_call' (f := 16) (args := #[.slice (some ⟨b, oo, none⟩) j c1]) (by kernel_rfl) (hca.mono ?_)
                rintro e w' ⟨A', c', rfl, ho, hb⟩
                exact ⟨_, rfl, hb, A', c', rfl, ownsRow_mono ho hX.size⟩
              obtain ⟨A7, c7, rfl, ho7⟩ := hf
              obtain ⟨i0, hi, hz0, hz1, hz2⟩ := info_parts infoAce
              have hbX := hX
              have bxX := BX.out X hX
              have hr := (HDT.out X (bel_trans HB6.out hX)).r1
              rw [acesV_take d.es (j + 1)] at hr
              have hrs := hr.suffix
              rw [acesV_length, show (d.es.take (j + 1)).length = j + 1 by rw [List.length_take]; omega] at hrs
              have hdl : (acesV (d.es.drop (j + 1))).length = (d.es.length - (j + 1)) * 4 := by rw [acesV_length, List.length_drop]
              have hrs2 : Rd X X.heap.size (if c1 = j + 1 then some ⟨b, oo, none⟩ else some ⟨b, oo + (j + 1) * 4, none⟩) (acesV (d.es.drop (j + 1))) := by
                split
                · rw [List.drop_of_length_le (by omega)]; exact Rd.nil _ _ _
                · exact hrs
              obtain ⟨A9, hA9⟩ : ∃ A9, A9 = (if c1 = j + 1 then (some ⟨b, oo, none⟩ : Option Addr) else some ⟨b, oo + (j + 1) * 4, none⟩) := ⟨_, rfl⟩
              rw [← hA9] at hrs2 ⊢
              have HRS := Lib.hid hrs2
              have HO7 := Lib.hid ho7
              have HBX := Lib.hid hX
              have BXX := Lib.hid bxX
              have W6lt := Lib.hid (show V5.heap.size < W6.heap.size from bx6lt.out)
              clear hX hbX bxX hr hrs hrs2 ho7 hA9
              go_upto_region 27 with (first | (at_builtin; (refine wpList_append_rd _ rfl (.tmp 131) (.tmp 136) 22 rfl W6.heap.size 34 i0 (.agg #[.int .i64 0, .int .i64 0, .int .i64 0, .int .i64 0]) 4 32 Tryd.underlying22 hi hz0 hz1 hz2 rfl (by decide) _ j (acesV (d.es.take j)) rfl HO7.out X.heap.size A9 (d.es.length - (j + 1)) (c1 - (j + 1)) (acesV (d.es.drop (j + 1))) rfl hdl HRS.out (aceV_one _) (by unfold maxLen; omega) (by omega) HBX.out.size ?_); intro v8 X8 hown8 hgr8 hor8 hbel8; obtain ⟨A8, c8, rfl, _⟩ := ownsRow_form hown8) | ((refine wpList_store_field rfl 22 (.tmp 138) (.tmp 137) rfl rfl V5.heap.size 4 (.slice A8 (j + (d.es.length - (j + 1))) c8) rfl rfl rfl (by kernel_rfl) V5 (bel_trans HB56.out (HBX.out.trans hbel8)) (Nat.le_refl _) 24 _ (BXX.out.belowAt hbel8 W6lt.out) (by show 4 < 6; decide) ?_); intro X9 hb9 bx9 keep9))
              have hV9 := bel_trans HV5.out hb9
              have hX9 := bel_trans HV.out hV9
              have hw9 := bel_trans HBV.out hV9
              obtain ⟨n8, hn8⟩ : ∃ n, n = j + (d.es.length - (j + 1)) := ⟨_, rfl⟩
              rw [← hn8] at hown8 bx9 ⊢
              have hne8 : n8 = (dropA d j).es.length := by
                rw [hn8]; unfold dropA; simp only [List.length_append, List.length_take, List.length_drop]; omega
              have ho9 := ownsRow_kept hown8 keep9 W6lt.out
              rw [← acesV_append] at ho9
              have rd9 : Rd X9 X9.heap.size A8 (acesV (dropA d j).es) := Rd.of_own ho9
              have rd2 : Rd X9 X9.heap.size B2 (acesV d.us) := HR2.out.below' hb9
              obtain ⟨m0, hm0⟩ : ∃ m, m = rgtP (dropA d j) t := ⟨_, rfl⟩
              have hak : d.es[j].k = 1 := by rw [← HX.out.2.2]; exact HK.out
              have hand : bits .and .i64 m0 n0 = n0 := by rw [hm0, HN0.out]; exact rgt_drop hlt hak
              have hb0 := dropA_bot G0.out hlt
              have HDX := Lib.hid (fun X (hX : Below X9.heap.size X9 X) B (hr : Rd X X.heap.size B (t.gs.map (.int .i64))) => (show DT (dropA d j) t A8 B2 B X from ⟨by rw [← hne8]; omega, by show d.us.length ≤ 500; omega, by omega, rd9.below' hX, rd2.below' hX, hr, (HDT.out X (bel_trans hw9 hX)).gr⟩))
              have HRX := Lib.hid (fun B kt X h => RightsFor_any (dropA d j) t A8 B2 B c8 k2 kt X h)
              rw [hb0, if_pos rfl, ← hm0] at HRX
              unfold dscV at HRX
              rw [← hne8] at HRX
              have HRX := Lib.hid (fun B kt X (hX : Below X9.heap.size X9 X) hr => (show Calls Tryd.prog 13 #[.agg #[.int .i64 d.o, .int .i64 d.g, .bool d.pr, .bool d.he, .slice A8 n8 c8, .slice B2 d.us.length k2], tokV t B kt] X _ from HRX.out B kt X (HDX.out X hX B hr)))
              have bt9 := BT.out X9 hb9
              have z0 : X9.cell? ⟨w.heap.size + 1, 0, none⟩ = some (.int .i64 t.u) := Box.cells bt9 0; have z1 : X9.cell? ⟨w.heap.size + 1, 1, none⟩ = some (.slice A t.gs.length c) := Box.cells bt9 1; have z2 : X9.cell? ⟨w.heap.size + 1, 2, none⟩ = some (.int .i64 t.p) := Box.cells bt9 2
              have l1 := bt9.lt
              have l2 := bx9.lt
              have q0 : X9.cell? ⟨V5.heap.size, 0, none⟩ = some (.int .i64 d.o) := bx9.cells 0
              have q1 : X9.cell? ⟨V5.heap.size, 1, none⟩ = some (.int .i64 d.g) := bx9.cells 1
              have q2 : X9.cell? ⟨V5.heap.size, 2, none⟩ = some (.bool d.pr) := bx9.cells 2
              have q3 : X9.cell? ⟨V5.heap.size, 3, none⟩ = some (.bool d.he) := bx9.cells 3
              have q4 : X9.cell? ⟨V5.heap.size, 4, none⟩ = some (.slice A8 n8 c8) := bx9.cells 4
              have q5 : X9.cell? ⟨V5.heap.size, 5, none⟩ = some (.slice B2 d.us.length k2) := bx9.cells 5
              have HT9 := Lib.hid ((HDT.out X9 hw9).r3)
              have HX9 := Lib.hid hX9
              have HW9 := Lib.hid hw9
              clear hV9 hX9 hw9 ho9 rd9 rd2 hb0 hak hne8 hn8 bt9 bx9 hown8 keep9 hb9 hm0 y4 l0 hgr8 hor8 hbel8
              have HAND := Lib.hid hand
              clear hand
              (refine wp_region_flow [false, false, true, true, true, true, true, true] [⟨2, [], TokO t, false⟩, ⟨3, [2], EqV (.tuple #[.int .i64 m0, .int .i64 0]), false⟩, ⟨4, [3], EqV (.tuple #[.int .i64 m0, .int .i64 0]), false⟩, ⟨5, [4], EqV (.int .i64 m0), false⟩, ⟨6, [4], EqV (.int .i64 0), false⟩, ⟨7, [5], EqV (.int .i64 m0), false⟩] (by kernel_rfl) (by kernel_rfl) (by kernel_rfl) (by kernel_rfl) ?_; simp only [pick, List.length_cons, List.length_nil, List.drop_succ_cons, List.drop_zero, Nat.zero_add, Nat.reduceAdd]; apply Exists.intro; refine ⟨fun X hX => ?_, ?_⟩; (focus (obtain ⟨hcX, hfX⟩ := bcell hX; have hgX := regcell hX; have hsX := hX.size; (try simp only [World.size_alloc] at hsX); (repeat (go_big_quiet_step ((first | fail)))); exact wpQuiet_nil rfl)); simp only [wpND, told, toldAll, List.contains_cons, List.contains_nil, List.mem_cons, List.not_mem_nil, forall_eq_or_imp, false_implies, implies_true, and_true, Nat.reduceBEq, BEq.rfl, beq_self_eq_true, Bool.or_false, Bool.false_or, Bool.true_or, Bool.or_true, Bool.false_eq_true, if_true, if_false, true_implies, dstAt, List.getElem?_toArray, List.getElem?_cons_succ, List.getElem?_cons_zero, Option.some.injEq, forall_eq', Option.bind_some, Act.put, List.setIfInBounds_toArray, List.set_cons_succ, List.set_cons_zero])
              refine ⟨TokO.stable, fun X hX => ?_, fun v2 => ⟨EqV.stable, fun X hX hf => ?_, fun v3 => ⟨EqV.stable, fun X hX hf => ?_, fun v4 => ⟨EqV.stable, fun X hX hf => ?_, fun v5 => ⟨EqV.stable, fun X hX hf => ?_, fun v6 => ⟨EqV.stable, fun X hX hf => ?_, fun v7 X hX hf => ?_⟩⟩⟩⟩⟩⟩
              · exact leaf_tok (c := c) (by kernel_rfl) (by omega) (HT9.out.below' hX)
              · obtain ⟨Bt, kt, rfl, g3⟩ := hf
                refine leaves_call' (f := 13) (args := #[.agg #[.int .i64 d.o, .int .i64 d.g, .bool d.pr, .bool d.he, .slice A8 n8 c8, .slice B2 d.us.length k2], tokV t Bt kt]) (by kernel_rfl) ((HRX.out Bt kt X hX g3).mono ?_)
                rintro e W1 ⟨rfl, hb⟩
                exact ⟨_, rfl, hb, rfl⟩
              · unfold EqV at hf; subst hf; exact leaves_pure' (by kernel_rfl) rfl
              · unfold EqV at hf; subst hf; exact leaves_pure' (by kernel_rfl) rfl
              · unfold EqV at hf; subst hf; exact leaves_pure' (by kernel_rfl) rfl
              · unfold EqV at hf; subst hf; exact leaves_pure' (by kernel_rfl) rfl
              obtain ⟨h8, h7, _⟩ := id hf
              unfold EqV at h8 h7
              subst h8 h7
              have HXF := Lib.hid (bel_trans HX9.out hX)
              clear hX hf q0 q1 q2 q3 q4 q5 z0 z1 z2 l1 l2
              have hand := HAND.out
              go_wp2
              go_roundw
              case rel =>
                first
                  | exact ⟨j + 1, by omega, by go_num, HXF.out⟩
                  | (repeat apply Exists.intro); exact ⟨⟨j + 1, by omega, by go_num, HXF.out⟩, rfl⟩
              case measure => simp [intOf]; omega
        · go_wp2
          go_ret
          exact ⟨rfl, hbw⟩
end Go.Proofs.YtanicpgmbhfipaaDoor
