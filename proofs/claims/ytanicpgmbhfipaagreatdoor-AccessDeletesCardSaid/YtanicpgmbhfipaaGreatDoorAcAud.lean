/-
  Chapter 17: which audits note a mask.
-/
import Derived.Test.YtanicpgmbhfipaaGreatDoorAcL
namespace Go.Proofs.YtanicpgmbhfipaaGreatDoor
set_option linter.unusedVariables false
set_option linter.unusedSimpArgs false
open Go.RowKit Go.Sort

def audB (t : TokP) (m : Int) (a : AceP) : Bool := cntB a && isT t a.w && (bits .and .i64 a.m m != 0)
def audN (t : TokP) (m : Int) (us : List AceP) : Nat → List Int
  | 0 => []
  | n + 1 => audN t m us n ++ (if audB t m (us.getD n ⟨0, 0, 0, 0⟩) = true then [(n : Int)] else [])
def audP (d : DscP) (t : TokP) (m : Int) : List Int := audN t m d.us d.us.length
theorem audN_len (t : TokP) (m : Int) (us : List AceP) : ∀ n, (audN t m us n).length ≤ n
  | 0 => Nat.le_refl _
  | n + 1 => by
    have := audN_len t m us n
    unfold audN
    rw [List.length_append]
    split <;> simp <;> omega
theorem us_ok {d : DscP} {t : TokP} (h : botE d t = 0) : ∀ a ∈ d.us, 0 ≤ a.f ∧ a.f ≤ 31 := fun a ha => by
  have h1 := ((dscE_zero (botE_zero h).1).2.2.2.2.2.2 a ha).1
  have h2 := (aceO_of h1).1
  exact ⟨h2.1, h2.2.1⟩
set_option maxRecDepth 100000 in
set_option maxHeartbeats 4000000 in
theorem refAudited_any (d : DscP) (t : TokP) (m : Int) (A1 A2 A : Option Addr) (c1 c2 c : Nat) (w : World) (h : DT d t A1 A2 A w) (ho : ∀ a ∈ d.us, 0 ≤ a.f ∧ a.f ≤ 31) :
    Calls Tryz.prog 36 #[dscV d A1 A2 c1 c2, tokV t A c, .int .i64 m] w fun e w' => ∃ A' c', e = .returned (.slice A' (audP d t m).length c') ∧ w'.ownsRow w.heap.size 3 1 (.slice A' (audP d t m).length c') (audP d t m).length ((audP d t m).map (.int .i64)) ∧ Below w.heap.size w w' := by
  obtain ⟨i0, hi, hz0, hz1, hz2⟩ := info_parts DecidedBy_info
  obtain ⟨W0, hW0⟩ : ∃ W0, W0 = (w.alloc (.cells (dscC d A1 A2 c1 c2) 24)).alloc (.cells (tokC t A c) 27) := ⟨_, rfl⟩
  have hb0 : Below w.heap.size w W0 := by rw [hW0]; exact bel_alloc (bel_alloc (Below.refl _ _) _) _
  have bD : Box W0 w.heap.size (dscC d A1 A2 c1 c2) 24 := by rw [hW0]; exact (Box.new w _ _).old _
  have bT : Box W0 (w.heap.size + 1) (tokC t A c) 27 := by
    have := Box.new (w.alloc (.cells (dscC d A1 A2 c1 c2) 24)) (tokC t A c) 27
    rw [World.size_alloc] at this; rw [hW0]; exact this
  have h0 := h.below hb0
  have HIS := Lib.hid (fun x W (hW : Below W0.heap.size W0 W) => Is_any t A c x W (by have := h.l3; omega) (h0.below hW).r3)
  have HCN := Lib.hid (fun a (ha : a ∈ d.us) W => refcounts_any a W (ho a ha).1 (ho a ha).2)
  have BD := Lib.hid (fun W hW => bD.below (w' := W) hW)
  have BT := Lib.hid (fun W hW => bT.below (w' := W) hW)
  have HB0 := Lib.hid hb0
  have HW0 := Lib.hid hW0
  have HH := Lib.hid h0
  have hlu : d.us.length ≤ 500 := h.l2
  have HM := Lib.hid (fun (k : Nat) (h : k < d.us.length) => List.getElem_mem h)
  unfold audP
  unfold tokV dscV at *
  unfold dscC at BD
  unfold tokC at BT
  unfold dscC tokC at HW0
  clear h h0 ho bD bT hb0 hW0
  go_enter Tryz.func36, Tryz.ntmps36
  go_wp2
  rw [← HW0.out]
  go_loopw [7, 8] (fun r ix wr => ∃ (k : Nat) (A' : Option Addr) (c' : Nat), k ≤ d.us.length ∧ ix = .int .i64 k ∧ r = .slice A' (audN t m d.us k).length c' ∧ wr.ownsRow W0.heap.size 3 1 (.slice A' (audN t m d.us k).length c') (audN t m d.us k).length ((audN t m d.us k).map (.int .i64)) ∧ Below W0.heap.size W0 wr) (fun _ ix _ => d.us.length - (intOf ix).toNat)
  case atStart => exact ⟨0, none, 0, Nat.zero_le _, rfl, rfl, World.ownsRow_nil _ _ _ _, Below.refl _ _⟩
  case round =>
    obtain ⟨k, A', c', hk, rfl, rfl, hown, hb⟩ := hrel
    have bd1 := BD.out _ hb
    have bt1 := BT.out _ hb
    have y5 : wr.cell? ⟨w.heap.size, 5, none⟩ = some (.slice A2 d.us.length c2) := bd1.cells 5
    have z0 : wr.cell? ⟨w.heap.size + 1, 0, none⟩ = some (.int .i64 t.u) := Box.cells bt1 0; have z1 : wr.cell? ⟨w.heap.size + 1, 1, none⟩ = some (.slice A t.gs.length c) := Box.cells bt1 1; have z2 : wr.cell? ⟨w.heap.size + 1, 2, none⟩ = some (.int .i64 t.p) := Box.cells bt1 2
    have n0 : w.heap.size < wr.heap.size := bd1.lt
    have n1 : w.heap.size + 1 < wr.heap.size := bt1.lt
    by_cases hlt : k < d.us.length
    · have hr1 : Rd wr wr.heap.size A2 (acesV d.us) := (HH.out.below hb).r2
      obtain ⟨b, oo, rfl, hbb, hc⟩ := hr1.opened (by rw [acesV_length]; omega)
      obtain ⟨g0, g1, g2, g3⟩ := acesV_get d.us k hlt
      have cc0 : wr.cell? ⟨b, oo + k * 4, none⟩ = _ := hc _ _ g0
      have cc1 : wr.cell? ⟨b, oo + k * 4 + 1, none⟩ = _ := hc _ _ g1
      have cc2 : wr.cell? ⟨b, oo + k * 4 + 1 + 1, none⟩ = _ := hc _ _ g2
      have cc3 : wr.cell? ⟨b, oo + k * 4 + 1 + 1 + 1, none⟩ = _ := hc _ _ g3
      have HC1 := HCN.out d.us[k] (HM.out k hlt)
      have hgd : d.us.getD k ⟨0, 0, 0, 0⟩ = d.us[k] := by rw [List.getD_eq_getElem?_getD, List.getElem?_eq_getElem hlt]; rfl
      have hsn : audN t m d.us (k + 1) = audN t m d.us k ++ (if audB t m d.us[k] = true then [(k : Int)] else []) := by rw [audN, hgd]
      obtain ⟨a, ha⟩ : ∃ a, a = d.us[k] := ⟨_, rfl⟩
      rw [← ha] at cc0 cc1 cc2 cc3 HC1 hsn
      obtain ⟨L, hL⟩ : ∃ L, L = audN t m d.us k := ⟨_, rfl⟩
      have hLl : L.length ≤ 500 := by rw [hL]; have := audN_len t m d.us k; omega
      rw [← hL] at hown hsn ⊢
      obtain ⟨x1, hx1⟩ : ∃ x, x = cntB a := ⟨_, rfl⟩
      obtain ⟨x2, hx2⟩ : ∃ x, x = isT t a.w := ⟨_, rfl⟩
      obtain ⟨v3, hv3⟩ : ∃ x, bits .and .i64 a.m m = x := ⟨_, rfl⟩
      have HI1 := fun W hW => HIS.out a.w W hW
      have hab : audB t m a = (x1 && x2 && (v3 != 0)) := by rw [hx1, hx2, ← hv3]; rfl
      rw [hab] at hsn
      rw [← hx1] at HC1
      rw [← hx2] at HI1
      have HC2 := Lib.hid HC1
      have HI2 := Lib.hid HI1
      have HSN := Lib.hid hsn
      have HB2 := Lib.hid hb
      have HOWN := Lib.hid hown
      obtain ⟨ak, af, am, aw⟩ := a
      dsimp only at *
      clear HC1 HI1 hsn hab hgd ha hx1 hx2 g0 g1 g2 g3 hc bd1 bt1 hb hr1 hown hL
      cases x1
      · go_wp2_with (go_at_call 72; refine (HC2.out _).mono ?_; rintro e W1 ⟨rfl, hbW1⟩; obtain ⟨hcW1, hfW1⟩ := bcell hbW1)
        go_roundw
        case rel => exact ⟨k + 1, A', c', by omega, by go_num, by rw [HSN.out]; simp, by rw [HSN.out]; simpa using ownsRow_below (HOWN.out.alloc _) hbW1, bel_trans (bel_alloc HB2.out _) hbW1⟩
        case measure => simp [intOf]; omega
      · cases x2
        · go_wp2_with (first | ((go_at_call 72; refine (HC2.out _).mono ?_; rintro e W1 ⟨rfl, hbW1⟩; obtain ⟨hcW1, hfW1⟩ := bcell hbW1); have q1 := hbW1.size; rw [World.size_alloc] at q1; have q2 : w.heap.size + 1 < W1.heap.size := (by omega); have q3 : wr.heap.size < W1.heap.size := (by omega)) | (go_at_call 73; refine (HI2.out _ (bel_trans (bel_alloc HB2.out _) hbW1)).mono ?_; rintro e W2 ⟨rfl, hbW2⟩; obtain ⟨hcW2, hfW2⟩ := bcell hbW2))
          go_roundw
          case rel => exact ⟨k + 1, A', c', by omega, by go_num, by rw [HSN.out]; simp, by rw [HSN.out]; simpa using ownsRow_below (ownsRow_below (HOWN.out.alloc _) hbW1) hbW2, bel_trans (bel_trans (bel_alloc HB2.out _) hbW1) hbW2⟩
          case measure => simp [intOf]; omega
        · by_cases h3 : v3 = 0
          · subst h3
            go_wp2_with (first | ((go_at_call 72; refine (HC2.out _).mono ?_; rintro e W1 ⟨rfl, hbW1⟩; obtain ⟨hcW1, hfW1⟩ := bcell hbW1); have q1 := hbW1.size; rw [World.size_alloc] at q1; have q2 : w.heap.size + 1 < W1.heap.size := (by omega); have q3 : wr.heap.size < W1.heap.size := (by omega)) | ((go_at_call 73; refine (HI2.out _ (bel_trans (bel_alloc HB2.out _) hbW1)).mono ?_; rintro e W2 ⟨rfl, hbW2⟩; obtain ⟨hcW2, hfW2⟩ := bcell hbW2); have q4 : wr.heap.size < W2.heap.size := (by have := hbW2.size; omega)))
            go_roundw
            case rel => exact ⟨k + 1, A', c', by omega, by go_num, by rw [HSN.out]; simp, by rw [HSN.out]; simpa using ownsRow_below (ownsRow_below (HOWN.out.alloc _) hbW1) hbW2, bel_trans (bel_trans (bel_alloc HB2.out _) hbW1) hbW2⟩
            case measure => simp [intOf]; omega
          · have h3' : (v3 != 0) = true := by simpa using h3
            have HSN := Lib.hid (show audN t m d.us (k + 1) = L ++ [(k : Int)] by rw [HSN.out, h3']; simp)
            go_wp2_with (first | ((go_at_call 72; refine (HC2.out _).mono ?_; rintro e W1 ⟨rfl, hbW1⟩; obtain ⟨hcW1, hfW1⟩ := bcell hbW1); have q1 := hbW1.size; rw [World.size_alloc] at q1; have q2 : w.heap.size + 1 < W1.heap.size := (by omega); have q3 : wr.heap.size < W1.heap.size := (by omega)) | ((go_at_call 73; refine (HI2.out _ (bel_trans (bel_alloc HB2.out _) hbW1)).mono ?_; rintro e W2 ⟨rfl, hbW2⟩; obtain ⟨hcW2, hfW2⟩ := bcell hbW2); have q4 : wr.heap.size < W2.heap.size := (by have := hbW2.size; omega); have hown := ownsRow_below (ownsRow_below (HOWN.out.alloc _) hbW1) hbW2; have HX := Lib.hid (bel_trans (bel_trans (bel_alloc HB2.out _) hbW1) hbW2); have hszX := HX.out.size) | (at_builtin; refine wpList_push _ rfl (.tmp 37) (.tmp 39) 25 rfl W0.heap.size 3 i0 _ 1 8 [.int .i64 k] Tryz.underlying25 hi hz0 hz1 hz2 rfl (by decide) (.slice A' L.length c') _ _ rfl hown _ rfl rfl rfl (by intro u hu; simp at hu; subst hu; rfl) (by unfold maxLen; omega) (by omega) hszX ?_; intro v5 V5 ow5 hk5 hs5 hb5 hv5 be5; obtain ⟨A5, c5, rfl, _⟩ := ownsRow_form ow5; clear hk5 hb5 hv5))
            go_roundw
            case rel => exact ⟨k + 1, A5, c5, by omega, by go_num, by rw [HSN.out]; simp, by rw [HSN.out, List.length_append, List.map_append]; exact ow5, HX.out.trans be5⟩
            case measure => simp [intOf]; omega
    · obtain rfl : k = d.us.length := by omega
      go_wp2
      go_ret
      exact ⟨A', c', rfl, ownsRow_mono hown HB0.out.size, bel_trans HB0.out hb⟩
set_option maxRecDepth 100000 in
set_option maxHeartbeats 4000000 in
theorem AuditedBy_any (d : DscP) (t : TokP) (m : Int) (A1 A2 A : Option Addr) (c1 c2 c : Nat) (w : World) (h : DT d t A1 A2 A w) :
    Calls Tryz.prog 34 #[dscV d A1 A2 c1 c2, tokV t A c, .int .i64 m] w fun e w' => RowRet w (if triE d t m = 0 then audP d t m else []) (triE d t m) e w' := by
  obtain ⟨i0, hi, hz0, hz1, hz2⟩ := info_parts DecidedBy_info
  have HD := Lib.hid (fun W (hW : Below w.heap.size w W) => (h.below hW).dsc c1 c2)
  have HT := Lib.hid (fun W (hW : Below w.heap.size w W) => (h.below hW).tok c)
  have HM0 := Lib.hid (fun W => maskErr_any m W)
  obtain ⟨r, hr⟩ : ∃ r, r = triE d t m := ⟨_, rfl⟩
  rw [← hr]
  obtain ⟨e1, he1⟩ : ∃ e, e = dscE d := ⟨_, rfl⟩
  obtain ⟨e2, he2⟩ : ∃ e, e = tokE t := ⟨_, rfl⟩
  obtain ⟨e3, he3⟩ : ∃ e, e = mskE m := ⟨_, rfl⟩
  have H0 := Lib.hid (show r = firstE [e1, e2, e3] by rw [hr, he1, he2, he3]; rfl)
  have HZ := Lib.hid (fun (h : r = 0) => us_ok (triE_zero (hr.symm.trans h)).1)
  rw [← he1] at HD
  rw [← he2] at HT
  rw [← he3] at HM0
  have HH := Lib.hid h
  have hlu : d.us.length ≤ 500 := h.l2
  have HM := Lib.hid (fun (k : Nat) (h : k < d.us.length) => List.getElem_mem h)
  obtain ⟨LL, hLL⟩ : ∃ L, L = (if r = 0 then audP d t m else []) := ⟨_, rfl⟩
  rw [← hLL]
  unfold audP at hLL
  have HLL := Lib.hid hLL
  clear hLL
  unfold dscV tokV at *
  have bD := (Box.new w (dscC d A1 A2 c1 c2) 24).old (.cells (tokC t A c) 27)
  have bT := Box.new (w.alloc (.cells (dscC d A1 A2 c1 c2) 24)) (tokC t A c) 27
  rw [World.size_alloc] at bT
  have BD := Lib.hid (fun W hW => bD.below (w' := W) hW)
  have BT := Lib.hid (fun W hW => bT.below (w' := W) hW)
  unfold dscC tokC at BD BT
  clear hr he1 he2 he3 h bD bT
  go_enter Tryz.func34, Tryz.ntmps34
  go_wp2
  (refine wp_region_flow [false, false, false, false, false, false, true, true] [⟨6, [], ErrsI w.heap.size [e1, e2, e3], false⟩, ⟨7, [6], IntV r, false⟩] (by kernel_rfl) (by kernel_rfl) (by kernel_rfl) (by kernel_rfl) ?_; simp only [pick, List.length_cons, List.length_nil, List.drop_succ_cons, List.drop_zero, Nat.zero_add, Nat.reduceAdd]; apply Exists.intro; refine ⟨fun X hX => ?_, ?_⟩; (focus (obtain ⟨hcX, hfX⟩ := bcell hX; have hgX := regcell hX; have hsX := hX.size; (try simp only [World.size_alloc] at hsX); (repeat (go_big_quiet_step ((first | (go_at_call 52; (with_reducible exact Calls.regrown_of (HD.out _ (bel_trans (bel_trans (bel_alloc (bel_alloc (Below.refl _ _) _) _) hX) (below_regrown X _ _))))) | (go_at_call 53; (with_reducible exact Calls.regrown_of (HT.out _ (bel_trans (bel_trans (bel_alloc (bel_alloc (Below.refl _ _) _) _) hX) (below_regrown X _ _))))) | (go_at_call 55; (with_reducible exact Calls.reg_pure (HM0.out _))))))); exact wpQuiet_nil rfl)); simp only [wpND, told, toldAll, List.contains_cons, List.contains_nil, List.mem_cons, List.not_mem_nil, forall_eq_or_imp, false_implies, implies_true, and_true, Nat.reduceBEq, BEq.rfl, beq_self_eq_true, Bool.or_false, Bool.false_or, Bool.true_or, Bool.or_true, Bool.false_eq_true, if_true, if_false, true_implies, dstAt, List.getElem?_toArray, List.getElem?_cons_succ, List.getElem?_cons_zero, Option.some.injEq, forall_eq', Option.bind_some, Act.put, List.setIfInBounds_toArray, List.set_cons_succ, List.set_cons_zero])
  refine ⟨ErrsI.stable, fun X hX => ?_, fun v1 => ⟨IntV.stable, fun X hX hf => ?_, fun v2 X hX hf => ?_⟩⟩
  · exact leaves_alloc' (v := .slice (some ⟨X.heap.size, 0, none⟩) 3 3) (obj := .cells #[.int .i64 e1, .int .i64 e2, .int .i64 e3] 30) (by kernel_rfl) ⟨X.heap.size, rfl, by have := hX.size; simp at this; omega, heap_alloc_new _ _⟩
  · refine leaves_call' (f := 51) (args := #[v1]) (by kernel_rfl) ?_
    rw [H0.out]
    exact access_first_errs [e1, e2, e3] (by simp) hf
  obtain ⟨h2v, _⟩ := hf
  obtain rfl : v2 = .int .i64 r := h2v
  have HB0 := Lib.hid (show Below w.heap.size w X from bel_trans (bel_alloc (bel_alloc (Below.refl _ _) _) _) hX)
  by_cases h0 : r = 0
  · subst h0
    obtain rfl := HLL.out.trans (if_pos rfl)
    have ho := HZ.out rfl
    have bD := BD.out X hX
    have bT := BT.out X hX
    have HIS := Lib.hid (fun x W (hW : Below X.heap.size X W) => has_it t A c x W (by have := HH.out.l3; omega) ((HH.out.below HB0.out).below hW).r3)
    have HCN := Lib.hid (fun a (ha : a ∈ d.us) W => counts_any a W (ho a ha).1 (ho a ha).2)
    have y5 : X.cell? ⟨w.heap.size, 5, none⟩ = some (.slice A2 d.us.length c2) := bD.cells 5
    have n0 : w.heap.size < X.heap.size := bD.lt
    have BD := Lib.hid (fun W hW => bD.below (w' := W) hW)
    have BT := Lib.hid (fun W hW => bT.below (w' := W) hW)
    have HH := Lib.hid (HH.out.below HB0.out)
    unfold tokV at HIS
    clear ho bD bT HZ HD HT HM0 hX
    go_wp2
    clear y5 n0
    go_loopw [9, 26] (fun r ix wr => ∃ (k : Nat) (A' : Option Addr) (c' : Nat), k ≤ d.us.length ∧ ix = .int .i64 k ∧ r = .slice A' (audN t m d.us k).length c' ∧ wr.ownsRow X.heap.size 3 1 (.slice A' (audN t m d.us k).length c') (audN t m d.us k).length ((audN t m d.us k).map (.int .i64)) ∧ Below X.heap.size X wr) (fun _ ix _ => d.us.length - (intOf ix).toNat)
    case atStart => exact ⟨0, none, 0, Nat.zero_le _, rfl, rfl, World.ownsRow_nil _ _ _ _, Below.refl _ _⟩
    case round =>
      obtain ⟨k, A', c', hk, rfl, rfl, hown, hb⟩ := hrel
      have bd1 := BD.out _ hb
      have bt1 := BT.out _ hb
      have y5 : wr.cell? ⟨w.heap.size, 5, none⟩ = some (.slice A2 d.us.length c2) := bd1.cells 5
      have z0 : wr.cell? ⟨w.heap.size + 1, 0, none⟩ = some (.int .i64 t.u) := Box.cells bt1 0; have z1 : wr.cell? ⟨w.heap.size + 1, 1, none⟩ = some (.slice A t.gs.length c) := Box.cells bt1 1; have z2 : wr.cell? ⟨w.heap.size + 1, 2, none⟩ = some (.int .i64 t.p) := Box.cells bt1 2
      have n0 : w.heap.size < wr.heap.size := bd1.lt
      have n1 : w.heap.size + 1 < wr.heap.size := bt1.lt
      by_cases hlt : k < d.us.length
      · have hr1 : Rd wr wr.heap.size A2 (acesV d.us) := (HH.out.below hb).r2
        obtain ⟨b, oo, rfl, hbb, hc⟩ := hr1.opened (by rw [acesV_length]; omega)
        obtain ⟨g0, g1, g2, g3⟩ := acesV_get d.us k hlt
        have cc0 : wr.cell? ⟨b, oo + k * 4, none⟩ = _ := hc _ _ g0
        have cc1 : wr.cell? ⟨b, oo + k * 4 + 1, none⟩ = _ := hc _ _ g1
        have cc2 : wr.cell? ⟨b, oo + k * 4 + 1 + 1, none⟩ = _ := hc _ _ g2
        have cc3 : wr.cell? ⟨b, oo + k * 4 + 1 + 1 + 1, none⟩ = _ := hc _ _ g3
        have HC1 := HCN.out d.us[k] (HM.out k hlt)
        have hgd : d.us.getD k ⟨0, 0, 0, 0⟩ = d.us[k] := by rw [List.getD_eq_getElem?_getD, List.getElem?_eq_getElem hlt]; rfl
        have hsn : audN t m d.us (k + 1) = audN t m d.us k ++ (if audB t m d.us[k] = true then [(k : Int)] else []) := by rw [audN, hgd]
        obtain ⟨a, ha⟩ : ∃ a, a = d.us[k] := ⟨_, rfl⟩
        rw [← ha] at cc0 cc1 cc2 cc3 HC1 hsn
        obtain ⟨L, hL⟩ : ∃ L, L = audN t m d.us k := ⟨_, rfl⟩
        have hLl : L.length ≤ 500 := by rw [hL]; have := audN_len t m d.us k; omega
        rw [← hL] at hown hsn ⊢
        obtain ⟨x1, hx1⟩ : ∃ x, x = cntB a := ⟨_, rfl⟩
        obtain ⟨x2, hx2⟩ : ∃ x, x = isT t a.w := ⟨_, rfl⟩
        obtain ⟨v3, hv3⟩ : ∃ x, bits .and .i64 a.m m = x := ⟨_, rfl⟩
        have HI1 := fun W hW => HIS.out a.w W hW
        have hab : audB t m a = (x1 && x2 && (v3 != 0)) := by rw [hx1, hx2, ← hv3]; rfl
        rw [hab] at hsn
        rw [← hx1] at HC1
        rw [← hx2] at HI1
        have HC2 := Lib.hid HC1
        have HI2 := Lib.hid HI1
        have HSN := Lib.hid hsn
        have HB2 := Lib.hid hb
        have HOWN := Lib.hid hown
        obtain ⟨ak, af, am, aw⟩ := a
        dsimp only at *
        clear HC1 HI1 hsn hab hgd ha hx1 hx2 g0 g1 g2 g3 hc bd1 bt1 hb hr1 hown hL
        cases x1
        · go_wp2_with (go_at_call 70; refine (HC2.out _).mono ?_; rintro e W1 ⟨rfl, hbW1⟩; obtain ⟨hcW1, hfW1⟩ := bcell hbW1)
          go_roundw
          case rel => exact ⟨k + 1, A', c', by omega, by go_num, by rw [HSN.out]; simp, by rw [HSN.out]; simpa using ownsRow_below (HOWN.out.alloc _) hbW1, bel_trans (bel_alloc HB2.out _) hbW1⟩
          case measure => simp [intOf]; omega
        · cases x2
          · go_wp2_with (first | ((go_at_call 70; refine (HC2.out _).mono ?_; rintro e W1 ⟨rfl, hbW1⟩; obtain ⟨hcW1, hfW1⟩ := bcell hbW1); have q1 := hbW1.size; rw [World.size_alloc] at q1; have q2 : w.heap.size + 1 < W1.heap.size := (by omega); have q3 : wr.heap.size < W1.heap.size := (by omega)) | (go_at_call 71; refine (HI2.out _ (bel_trans (bel_alloc HB2.out _) hbW1)).mono ?_; rintro e W2 ⟨rfl, hbW2⟩; obtain ⟨hcW2, hfW2⟩ := bcell hbW2))
            go_roundw
            case rel => exact ⟨k + 1, A', c', by omega, by go_num, by rw [HSN.out]; simp, by rw [HSN.out]; simpa using ownsRow_below (ownsRow_below (HOWN.out.alloc _) hbW1) hbW2, bel_trans (bel_trans (bel_alloc HB2.out _) hbW1) hbW2⟩
            case measure => simp [intOf]; omega
          · by_cases h3 : v3 = 0
            · subst h3
              go_wp2_with (first | ((go_at_call 70; refine (HC2.out _).mono ?_; rintro e W1 ⟨rfl, hbW1⟩; obtain ⟨hcW1, hfW1⟩ := bcell hbW1); have q1 := hbW1.size; rw [World.size_alloc] at q1; have q2 : w.heap.size + 1 < W1.heap.size := (by omega); have q3 : wr.heap.size < W1.heap.size := (by omega)) | ((go_at_call 71; refine (HI2.out _ (bel_trans (bel_alloc HB2.out _) hbW1)).mono ?_; rintro e W2 ⟨rfl, hbW2⟩; obtain ⟨hcW2, hfW2⟩ := bcell hbW2); have q4 : wr.heap.size < W2.heap.size := (by have := hbW2.size; omega)))
              go_roundw
              case rel => exact ⟨k + 1, A', c', by omega, by go_num, by rw [HSN.out]; simp, by rw [HSN.out]; simpa using ownsRow_below (ownsRow_below (HOWN.out.alloc _) hbW1) hbW2, bel_trans (bel_trans (bel_alloc HB2.out _) hbW1) hbW2⟩
              case measure => simp [intOf]; omega
            · have h3' : (v3 != 0) = true := by simpa using h3
              have HSN := Lib.hid (show audN t m d.us (k + 1) = L ++ [(k : Int)] by rw [HSN.out, h3']; simp)
              go_wp2_with (first | ((go_at_call 70; refine (HC2.out _).mono ?_; rintro e W1 ⟨rfl, hbW1⟩; obtain ⟨hcW1, hfW1⟩ := bcell hbW1); have q1 := hbW1.size; rw [World.size_alloc] at q1; have q2 : w.heap.size + 1 < W1.heap.size := (by omega); have q3 : wr.heap.size < W1.heap.size := (by omega)) | ((go_at_call 71; refine (HI2.out _ (bel_trans (bel_alloc HB2.out _) hbW1)).mono ?_; rintro e W2 ⟨rfl, hbW2⟩; obtain ⟨hcW2, hfW2⟩ := bcell hbW2); have q4 : wr.heap.size < W2.heap.size := (by have := hbW2.size; omega); have hown := ownsRow_below (ownsRow_below (HOWN.out.alloc _) hbW1) hbW2; have HX := Lib.hid (bel_trans (bel_trans (bel_alloc HB2.out _) hbW1) hbW2); have hszX := HX.out.size) | (at_builtin; refine wpList_push _ rfl (.tmp 47) (.tmp 49) 25 rfl X.heap.size 3 i0 _ 1 8 [.int .i64 k] Tryz.underlying25 hi hz0 hz1 hz2 rfl (by decide) (.slice A' L.length c') _ _ rfl hown _ rfl rfl rfl (by intro u hu; simp at hu; subst hu; rfl) (by unfold maxLen; omega) (by omega) hszX ?_; intro v5 V5 ow5 hk5 hs5 hb5 hv5 be5; obtain ⟨A5, c5, rfl, _⟩ := ownsRow_form ow5; clear hk5 hb5 hv5))
              go_roundw
              case rel => exact ⟨k + 1, A5, c5, by omega, by go_num, by rw [HSN.out]; simp, by rw [HSN.out, List.length_append, List.map_append]; exact ow5, HX.out.trans be5⟩
              case measure => simp [intOf]; omega
      · obtain rfl : k = d.us.length := by omega
        go_wp2
        go_ret2
        exact ⟨A', c', rfl, ownsRow_mono hown HB0.out.size, bel_trans HB0.out hb⟩
  · have h0' : (r != 0) = true := by simp [h0]
    obtain rfl := HLL.out.trans (if_neg h0)
    go_wp2
    go_ret2
    exact ⟨none, 0, rfl, World.ownsRow_nil _ _ _ _, HB0.out⟩
end Go.Proofs.YtanicpgmbhfipaaGreatDoor
