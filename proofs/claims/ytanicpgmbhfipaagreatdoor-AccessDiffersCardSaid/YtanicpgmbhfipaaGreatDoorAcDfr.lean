/-
  Chapter 17: the reference's Difference and More.
-/
import Derived.Test.YtanicpgmbhfipaaGreatDoorAcTks
import Derived.Test.YtanicpgmbhfipaaGreatDoorAcL
namespace Go.Proofs.YtanicpgmbhfipaaGreatDoor
set_option linter.unusedVariables false
set_option linter.unusedSimpArgs false
open Go.RowKit Go.Sort

def difR (a b : DscP) (L : List TokP) : TokP × Bool := match fstT xorF a b L with | some (t, _) => (t, true) | none => (noT, false)
def morR (a b : DscP) (L : List TokP) : TokP × Int := match fstT moreF a b L with | some (t, n) => (t, n) | none => (noT, 0)
theorem xorF_zero {x y : Int} (h0 : 0 ≤ x) (h1 : x < 512) (h2 : 0 ≤ y) (h3 : y < 512) : xorF x y = 0 ↔ x = y := by
  obtain ⟨a, rfl⟩ := Int.eq_ofNat_of_zero_le h0
  obtain ⟨b, rfl⟩ := Int.eq_ofNat_of_zero_le h2
  have ha : a < 512 := by omega
  have hb : b < 512 := by omega
  have e : xorF (a : Int) (b : Int) = ((a ^^^ b : Nat) : Int) := by
    have hx : a ^^^ b < 2 ^ 9 := Nat.xor_lt_two_pow (by omega) (by omega)
    unfold xorF bits
    simp only [BitVec.ofInt_natCast]
    have : (BitVec.ofNat 64 a ^^^ BitVec.ofNat 64 b).toNat = a ^^^ b := by
      rw [BitVec.toNat_xor, BitVec.toNat_ofNat, BitVec.toNat_ofNat, Nat.mod_eq_of_lt (by omega), Nat.mod_eq_of_lt (by omega)]
    show IntKind.i64.wrap ((BitVec.ofNat 64 a ^^^ BitVec.ofNat 64 b).toNat : Int) = _
    rw [this]
    exact wraps62 _ (Int.natCast_nonneg _) (by exact_mod_cast (show a ^^^ b < 2 ^ 62 by omega))
  rw [e]
  constructor
  · intro h
    have h' : a ^^^ b = 0 := by exact_mod_cast h
    have : a = b := by
      apply Nat.eq_of_testBit_eq
      intro i
      have := congrArg (Nat.testBit · i) h'
      simp at this
      exact this
    rw [this]
  · intro h
    have h' : a = b := by exact_mod_cast h
    subst h'
    simp
def DifRef (w : World) (t : TokP) (v : Value) (e : Ending) (w' : World) : Prop := ∃ A c, e = .returned (.tuple #[tokV t A c, v]) ∧ w'.ownsRow w.heap.size 3 1 (.slice A t.gs.length c) t.gs.length (t.gs.map (.int .i64)) ∧ Below w.heap.size w w'
theorem results_cell1b {P : Program} {fn : Func} {p q : Tmp} {ty : TypeId} (h : fn.results = #[.cell p ty, .tmp q]) (tmps : Array Value) (w : World) (g : Nat) (t : TypeId) (cs : Array Value) (d : TypeDesc) (u : Value)
    (hp : tmps.getD p undef = .pointer (some ⟨g, 0, none⟩)) (hq : tmps.getD q undef = u) (hg : Box w g cs t)
    (hu : P.underlying ty = some d) (hd : (match d with | .struct _ | .array _ _ => true | _ => false) = true) (hi : (P.info? ty).map (·.size) = some cs.size) :
    (results fn tmps).run P w = .ok (.tuple #[.agg cs, u]) w := by
  have hp' : tmps[p]?.getD undef = .pointer (some ⟨g, 0, none⟩) := by simpa using hp
  have hq' : tmps[q]?.getD undef = u := by simpa using hq
  simp [results, h, hp', hq', asAddr, run_loadVar_row w g t ty cs (0, 0) d hg hu hd hi]
set_option maxRecDepth 100000 in
set_option maxHeartbeats 8000000 in
theorem Difference_any (a b : DscP) (who : List Int) (A1 A2 B1 B2 A : Option Addr) (a1 a2 b1 b2 c : Nat) (w : World) (h : DD a b who A1 A2 B1 B2 A w) (hza : dscE a = 0) (hzb : dscE b = 0) (hw5 : who.length ≤ 5) :
    Calls Tryz.prog 31 #[dscV a A1 A2 a1 a2, dscV b B1 B2 b1 b2, .slice A who.length c] w (DifRef w (difR a b (toksP who)).1 (.bool (difR a b (toksP who)).2)) := by
  have hs3 : ((w.alloc (.cells (dscC a A1 A2 a1 a2) 24)).alloc (.cells (dscC b B1 B2 b1 b2) 24)).heap.size = w.heap.size + 1 + 1 := by simp only [World.size_alloc]
  have bA := ((Box.new w (dscC a A1 A2 a1 a2) 24).old (.cells (dscC b B1 B2 b1 b2) 24)).old (.cells #[.int .i64 0, .slice none 0 0, .int .i64 0] 27)
  have bB := (Box.new (w.alloc (.cells (dscC a A1 A2 a1 a2) 24)) (dscC b B1 B2 b1 b2) 24).old (.cells #[.int .i64 0, .slice none 0 0, .int .i64 0] 27)
  have bR := Box.new ((w.alloc (.cells (dscC a A1 A2 a1 a2) 24)).alloc (.cells (dscC b B1 B2 b1 b2) 24)) #[.int .i64 0, .slice none 0 0, .int .i64 0] 27
  rw [World.size_alloc] at bB
  rw [hs3] at bR
  have hb0 : Below w.heap.size w (((w.alloc (.cells (dscC a A1 A2 a1 a2) 24)).alloc (.cells (dscC b B1 B2 b1 b2) 24)).alloc (.cells #[.int .i64 0, .slice none 0 0, .int .i64 0] 27)) := bel_alloc (bel_alloc (bel_alloc (Below.refl _ _) _) _) _
  obtain ⟨X, hX0⟩ : ∃ X, X = ((w.alloc (.cells (dscC a A1 A2 a1 a2) 24)).alloc (.cells (dscC b B1 B2 b1 b2) 24)).alloc (.cells #[.int .i64 0, .slice none 0 0, .int .i64 0] 27) := ⟨_, rfl⟩
  rw [← hX0] at bA bB bR hb0
  have hsX : w.heap.size + 1 + 1 < X.heap.size := bR.lt
  have HX0 := Lib.hid hX0
  have BA := Lib.hid bA
  have BB := Lib.hid bB
  have BR := Lib.hid bR
  have HBX := Lib.hid hb0
  have HH := Lib.hid h
  have HTK := Lib.hid (refTokens_any A c who X hw5 (h.below hb0).r3)
  obtain ⟨Q, hQ⟩ : ∃ Q, Q = difR a b (toksP who) := ⟨_, rfl⟩
  rw [← hQ]
  have HQ := Lib.hid hQ
  have HZA := Lib.hid hza
  have HZB := Lib.hid hzb
  unfold dscC at BA BB HX0
  unfold dscV at *
  clear hX0 bA bB bR hb0 h hQ hza hzb hs3
  go_enter Tryz.func31, Tryz.ntmps31
  go_upto_region 1 with fail
  rw [← HX0.out]
  go_wp2_with (go_at_call 28; refine HTK.out.mono ?_; rintro e Wt ⟨ps, Bt, kt, rfl, hps, hown, hint, hbt⟩)
  have hpl : ps.length ≤ 80 := by
    have h1 := congrArg List.length hps
    rw [List.length_map] at h1
    have h2 := toksN_len who hw5 who.length (Nat.le_refl _)
    unfold toksP at h1
    omega
  have htk : ∀ p ∈ ps, p.2.p = 0 ∧ p.2.gs.length ≤ 5 := fun p hp => by
    have hm : p.2 ∈ toksP who := by rw [← hps]; exact List.mem_map_of_mem hp
    obtain ⟨h1, h2⟩ := toksP_p who p.2 hm
    exact ⟨h1, Nat.le_trans (h2 _ rfl) hw5⟩
  have HTKP := Lib.hid htk
  have HOWN := Lib.hid hown
  have HINT := Lib.hid hint
  have HBT := Lib.hid (bel_trans HBX.out hbt)
  have HBT2 := Lib.hid hbt
  have HQ4 := Lib.hid (show Q = difR a b ((ps.drop 0).map (·.2)) by rw [List.drop_zero, hps]; exact HQ.out)
  clear hown hint hbt hps htk HQ
  go_loopw [9] (fun ix wr => ∃ j : Nat, j ≤ ps.length ∧ ix = .int .i64 j ∧ Below Wt.heap.size Wt wr ∧ Q = difR a b ((ps.drop j).map (·.2))) (fun ix _ => ps.length - (intOf ix).toNat)
  case atStart => exact ⟨0, Nat.zero_le _, rfl, Below.refl _ _, HQ4.out⟩
  case round =>
    obtain ⟨j, hj, rfl, hb, hf⟩ := hrel
    have HBWX := Lib.hid (bel_trans HBT2.out hb)
    have brr := BR.out.below HBWX.out
    have HBR := Lib.hid brr
    have hbw := bel_trans HBT.out hb
    by_cases hlt : j < ps.length
    · obtain ⟨bl, ol, rfl, hBl, hcl⟩ := ((Rd.of_own HOWN.out).below hb).opened (by rw [toksV_length]; omega)
      obtain ⟨g0, g1, g2⟩ := toksV_get ps j hlt
      have c0 : wr.cell? ⟨bl, ol + j * 3, none⟩ = _ := hcl _ _ g0
      have c1 : wr.cell? ⟨bl, ol + j * 3 + 1, none⟩ = _ := hcl _ _ g1
      have c2 : wr.cell? ⟨bl, ol + j * 3 + 1 + 1, none⟩ = _ := hcl _ _ g2
      have hBlr : bl < wr.heap.size := Nat.lt_of_lt_of_le hBl hb.size
      have hd : ps.drop j = ps[j] :: ps.drop (j + 1) := List.drop_eq_getElem_cons hlt
      obtain ⟨Ai, ci, hv, hown1⟩ := HINT.out ps[j] (List.getElem_mem hlt)
      obtain ⟨hp0, hg5⟩ := HTKP.out ps[j] (List.getElem_mem hlt)
      obtain ⟨t, ht⟩ : ∃ t, t = ps[j].2 := ⟨_, rfl⟩
      have hv' : ps[j].1 = .slice Ai t.gs.length ci := by rw [ht]; exact hv
      rw [hv'] at c1
      rw [← ht] at c0 c2 hp0 hg5
      have hown2 : Wt.ownsRow X.heap.size 3 1 (.slice Ai t.gs.length ci) t.gs.length (t.gs.map (.int .i64)) := by rw [ht]; exact hown1
      have hf2 : Q = difR a b (t :: (ps.drop (j + 1)).map (·.2)) := by rw [hf, hd, List.map_cons, ht]
      have hg : Rd wr wr.heap.size Ai (t.gs.map (.int .i64)) := Rd.of_own (ownsRow_below hown2 hb)
      have HMA := Lib.hid (fun W (hW : Below wr.heap.size wr W) => refRights_any a t A1 A2 Ai a1 a2 ci W (((HH.out.below hbw).below hW).dta t Ai (by omega) (hg.below' hW)) (dtO_dsc HZA.out t hp0))
      have HMB := Lib.hid (fun W (hW : Below wr.heap.size wr W) => refRights_any b t B1 B2 Ai b1 b2 ci W (((HH.out.below hbw).below hW).dtb t Ai (by omega) (hg.below' hW)) (dtO_dsc HZB.out t hp0))
      have hra0 := rgtP_bd a t
      have hrb0 := rgtP_bd b t
      unfold difR at hf2
      rw [fstT] at hf2
      obtain ⟨ra, hra⟩ : ∃ x, x = rgtP a t := ⟨_, rfl⟩
      obtain ⟨rb, hrb⟩ : ∃ x, x = rgtP b t := ⟨_, rfl⟩
      rw [← hra] at HMA hf2 hra0
      rw [← hrb] at HMB hf2 hrb0
      have HF2 := Lib.hid hf2
      have HB2 := Lib.hid hb
      have HO2 := Lib.hid hown2
      have HBW := Lib.hid hbw
      have ba := BA.out.below HBWX.out
      have bb := BB.out.below HBWX.out
      have y0 : wr.cell? ⟨w.heap.size, 0, none⟩ = some (.int .i64 a.o) := Box.cells ba 0; have y1 : wr.cell? ⟨w.heap.size, 1, none⟩ = some (.int .i64 a.g) := Box.cells ba 1; have y2 : wr.cell? ⟨w.heap.size, 2, none⟩ = some (.bool a.pr) := Box.cells ba 2; have y3 : wr.cell? ⟨w.heap.size, 3, none⟩ = some (.bool a.he) := Box.cells ba 3; have y4 : wr.cell? ⟨w.heap.size, 4, none⟩ = some (.slice A1 a.es.length a1) := Box.cells ba 4; have y5 : wr.cell? ⟨w.heap.size, 5, none⟩ = some (.slice A2 a.us.length a2) := Box.cells ba 5
      have z0 : wr.cell? ⟨w.heap.size + 1, 0, none⟩ = some (.int .i64 b.o) := Box.cells bb 0; have z1 : wr.cell? ⟨w.heap.size + 1, 1, none⟩ = some (.int .i64 b.g) := Box.cells bb 1; have z2 : wr.cell? ⟨w.heap.size + 1, 2, none⟩ = some (.bool b.pr) := Box.cells bb 2; have z3 : wr.cell? ⟨w.heap.size + 1, 3, none⟩ = some (.bool b.he) := Box.cells bb 3; have z4 : wr.cell? ⟨w.heap.size + 1, 4, none⟩ = some (.slice B1 b.es.length b1) := Box.cells bb 4; have z5 : wr.cell? ⟨w.heap.size + 1, 5, none⟩ = some (.slice B2 b.us.length b2) := Box.cells bb 5
      have l0 : w.heap.size < wr.heap.size := ba.lt
      have l1 : w.heap.size + 1 < wr.heap.size := bb.lt
      have l2 : w.heap.size + 1 + 1 < wr.heap.size := brr.lt
      unfold dscV tokV at HMA HMB
      clear hf hf2 hd hv hv' ht hown1 hown2 g0 g1 g2 hcl hbw hg hra hrb hb hp0 ba bb brr
      go_wp2
      have hgX := regcell (Below.refl _ wr)
      (refine wp_region_quiet_below (by kernel_rfl) (by kernel_rfl) ?_; (repeat (go_big_quiet_step ((first | (go_at_call 17; (with_reducible exact Calls.regrown_of (HMA.out _ (below_regrown wr _ _)))) | (go_at_call 17; (with_reducible exact Calls.regrown_of (HMB.out _ (below_regrown wr _ _)))))))); (with_reducible refine wpQuiet_nil ?_); intro X2 hreg; have hbX2 := below_of_reg hreg; clear hreg; obtain ⟨hcX2, hfX2⟩ := bcell hbX2)
      have HX2 := Lib.hid hbX2
      have br2 := HBR.out.below hbX2
      have d0 : X2.cell? ⟨bl, ol + j * 3, none⟩ = _ := (hcX2 _ _ hBlr).trans c0
      have d1 : X2.cell? ⟨bl, ol + j * 3 + 1, none⟩ = _ := (hcX2 _ _ hBlr).trans c1
      have d2 : X2.cell? ⟨bl, ol + j * 3 + 1 + 1, none⟩ = _ := (hcX2 _ _ hBlr).trans c2
      have hBl2 : bl < X2.heap.size := Nat.lt_of_lt_of_le hBlr hbX2.size
      clear y0 y1 y2 y3 y4 y5 z0 z1 z2 z3 z4 z5 hbX2 hcX2 hfX2 hgX c0 c1 c2
      by_cases hq0 : ra = rb
      · have hF3 : Q = difR a b ((ps.drop (j + 1)).map (·.2)) := by
          rw [HF2.out, if_neg (by rw [ne_eq, Classical.not_not]; exact (xorF_zero hra0.1 hra0.2 hrb0.1 hrb0.2).2 hq0)]; rfl
        subst hq0
        have HF3 := Lib.hid hF3
        clear hF3
        go_wp2
        go_roundw
        case rel => exact ⟨j + 1, by omega, by go_num, bel_trans HB2.out HX2.out, HF3.out⟩
        case measure => simp [intOf]; omega
      · have hF3 : Q = (t, true) := by
          rw [HF2.out, if_pos (by rw [ne_eq, xorF_zero hra0.1 hra0.2 hrb0.1 hrb0.2]; exact hq0)]
        have hq0' : (ra != rb) = true := by simpa using hq0
        have HF3 := Lib.hid hF3
        clear hF3 hq0
        go_wp2_with (refine wpList_store_newG rfl 27 (.tmp 6) (.tmp 34) rfl rfl (w.heap.size + 1 + 1) #[.int .i64 t.u, .slice Ai t.gs.length ci, .int .i64 t.p] rfl rfl 27 _ br2 (by kernel_rfl) (by kernel_rfl) (by kernel_rfl) ?_; intro W4 g4 br4 keep4)
        have hb4 := g4.belowAt (bel_trans HBW.out HX2.out) (by omega)
        have hown4 : W4.ownsRow w.heap.size 3 1 (.slice Ai t.gs.length ci) t.gs.length (t.gs.map (.int .i64)) := ownsRow_mono (ownsRow_grw (ownsRow_below (ownsRow_below HO2.out HB2.out) HX2.out) g4 (by omega)) (by omega)
        rw [HF3.out]
        exact bodyPost_ret (results_cell1b Tryz.results31 _ W4 (w.heap.size + 1 + 1) 27 _ _ _ rfl rfl br4 Tryz.underlying27 rfl (by kernel_rfl)) rfl ⟨Ai, ci, rfl, hown4, hb4⟩
    · have hQ5 : Q = difR a b [] := by rw [hf, List.drop_of_length_le (by omega)]; rfl
      clear hf hb
      go_wp2_with (refine wpList_store_newG rfl 27 (.tmp 6) (.tmp 35) rfl rfl (w.heap.size + 1 + 1) #[.int .i64 0, .slice none 0 0, .int .i64 0] rfl rfl 27 _ HBR.out (by kernel_rfl) (by kernel_rfl) (by kernel_rfl) ?_; intro W4 g4 br4 keep4)
      have hb4 := g4.belowAt hbw (by omega)
      rw [hQ5]
      exact bodyPost_ret (results_cell1b Tryz.results31 _ W4 (w.heap.size + 1 + 1) 27 _ _ _ rfl rfl br4 Tryz.underlying27 rfl (by kernel_rfl)) rfl ⟨none, 0, rfl, World.ownsRow_nil _ _ _ _, hb4⟩
set_option maxRecDepth 100000 in
set_option maxHeartbeats 8000000 in
theorem More_any (a b : DscP) (who : List Int) (A1 A2 B1 B2 A : Option Addr) (a1 a2 b1 b2 c : Nat) (w : World) (h : DD a b who A1 A2 B1 B2 A w) (hza : dscE a = 0) (hzb : dscE b = 0) (hw5 : who.length ≤ 5) :
    Calls Tryz.prog 32 #[dscV a A1 A2 a1 a2, dscV b B1 B2 b1 b2, .slice A who.length c] w (DifRef w (morR a b (toksP who)).1 (.int .i64 (morR a b (toksP who)).2)) := by
  have hs3 : ((w.alloc (.cells (dscC a A1 A2 a1 a2) 24)).alloc (.cells (dscC b B1 B2 b1 b2) 24)).heap.size = w.heap.size + 1 + 1 := by simp only [World.size_alloc]
  have bA := ((Box.new w (dscC a A1 A2 a1 a2) 24).old (.cells (dscC b B1 B2 b1 b2) 24)).old (.cells #[.int .i64 0, .slice none 0 0, .int .i64 0] 27)
  have bB := (Box.new (w.alloc (.cells (dscC a A1 A2 a1 a2) 24)) (dscC b B1 B2 b1 b2) 24).old (.cells #[.int .i64 0, .slice none 0 0, .int .i64 0] 27)
  have bR := Box.new ((w.alloc (.cells (dscC a A1 A2 a1 a2) 24)).alloc (.cells (dscC b B1 B2 b1 b2) 24)) #[.int .i64 0, .slice none 0 0, .int .i64 0] 27
  rw [World.size_alloc] at bB
  rw [hs3] at bR
  have hb0 : Below w.heap.size w (((w.alloc (.cells (dscC a A1 A2 a1 a2) 24)).alloc (.cells (dscC b B1 B2 b1 b2) 24)).alloc (.cells #[.int .i64 0, .slice none 0 0, .int .i64 0] 27)) := bel_alloc (bel_alloc (bel_alloc (Below.refl _ _) _) _) _
  obtain ⟨X, hX0⟩ : ∃ X, X = ((w.alloc (.cells (dscC a A1 A2 a1 a2) 24)).alloc (.cells (dscC b B1 B2 b1 b2) 24)).alloc (.cells #[.int .i64 0, .slice none 0 0, .int .i64 0] 27) := ⟨_, rfl⟩
  rw [← hX0] at bA bB bR hb0
  have hsX : w.heap.size + 1 + 1 < X.heap.size := bR.lt
  have HX0 := Lib.hid hX0
  have BA := Lib.hid bA
  have BB := Lib.hid bB
  have BR := Lib.hid bR
  have HBX := Lib.hid hb0
  have HH := Lib.hid h
  have HTK := Lib.hid (refTokens_any A c who X hw5 (h.below hb0).r3)
  obtain ⟨Q, hQ⟩ : ∃ Q, Q = morR a b (toksP who) := ⟨_, rfl⟩
  rw [← hQ]
  have HQ := Lib.hid hQ
  have HZA := Lib.hid hza
  have HZB := Lib.hid hzb
  unfold dscC at BA BB HX0
  unfold dscV at *
  clear hX0 bA bB bR hb0 h hQ hza hzb hs3
  go_enter Tryz.func32, Tryz.ntmps32
  go_upto_region 1 with fail
  rw [← HX0.out]
  go_wp2_with (go_at_call 28; refine HTK.out.mono ?_; rintro e Wt ⟨ps, Bt, kt, rfl, hps, hown, hint, hbt⟩)
  have hpl : ps.length ≤ 80 := by
    have h1 := congrArg List.length hps
    rw [List.length_map] at h1
    have h2 := toksN_len who hw5 who.length (Nat.le_refl _)
    unfold toksP at h1
    omega
  have htk : ∀ p ∈ ps, p.2.p = 0 ∧ p.2.gs.length ≤ 5 := fun p hp => by
    have hm : p.2 ∈ toksP who := by rw [← hps]; exact List.mem_map_of_mem hp
    obtain ⟨h1, h2⟩ := toksP_p who p.2 hm
    exact ⟨h1, Nat.le_trans (h2 _ rfl) hw5⟩
  have HTKP := Lib.hid htk
  have HOWN := Lib.hid hown
  have HINT := Lib.hid hint
  have HBT := Lib.hid (bel_trans HBX.out hbt)
  have HBT2 := Lib.hid hbt
  have HQ4 := Lib.hid (show Q = morR a b ((ps.drop 0).map (·.2)) by rw [List.drop_zero, hps]; exact HQ.out)
  clear hown hint hbt hps htk HQ
  go_loopw [9] (fun ix wr => ∃ j : Nat, j ≤ ps.length ∧ ix = .int .i64 j ∧ Below Wt.heap.size Wt wr ∧ Q = morR a b ((ps.drop j).map (·.2))) (fun ix _ => ps.length - (intOf ix).toNat)
  case atStart => exact ⟨0, Nat.zero_le _, rfl, Below.refl _ _, HQ4.out⟩
  case round =>
    obtain ⟨j, hj, rfl, hb, hf⟩ := hrel
    have HBWX := Lib.hid (bel_trans HBT2.out hb)
    have brr := BR.out.below HBWX.out
    have HBR := Lib.hid brr
    have hbw := bel_trans HBT.out hb
    by_cases hlt : j < ps.length
    · obtain ⟨bl, ol, rfl, hBl, hcl⟩ := ((Rd.of_own HOWN.out).below hb).opened (by rw [toksV_length]; omega)
      obtain ⟨g0, g1, g2⟩ := toksV_get ps j hlt
      have c0 : wr.cell? ⟨bl, ol + j * 3, none⟩ = _ := hcl _ _ g0
      have c1 : wr.cell? ⟨bl, ol + j * 3 + 1, none⟩ = _ := hcl _ _ g1
      have c2 : wr.cell? ⟨bl, ol + j * 3 + 1 + 1, none⟩ = _ := hcl _ _ g2
      have hBlr : bl < wr.heap.size := Nat.lt_of_lt_of_le hBl hb.size
      have hd : ps.drop j = ps[j] :: ps.drop (j + 1) := List.drop_eq_getElem_cons hlt
      obtain ⟨Ai, ci, hv, hown1⟩ := HINT.out ps[j] (List.getElem_mem hlt)
      obtain ⟨hp0, hg5⟩ := HTKP.out ps[j] (List.getElem_mem hlt)
      obtain ⟨t, ht⟩ : ∃ t, t = ps[j].2 := ⟨_, rfl⟩
      have hv' : ps[j].1 = .slice Ai t.gs.length ci := by rw [ht]; exact hv
      rw [hv'] at c1
      rw [← ht] at c0 c2 hp0 hg5
      have hown2 : Wt.ownsRow X.heap.size 3 1 (.slice Ai t.gs.length ci) t.gs.length (t.gs.map (.int .i64)) := by rw [ht]; exact hown1
      have hf2 : Q = morR a b (t :: (ps.drop (j + 1)).map (·.2)) := by rw [hf, hd, List.map_cons, ht]
      have hg : Rd wr wr.heap.size Ai (t.gs.map (.int .i64)) := Rd.of_own (ownsRow_below hown2 hb)
      have HMA := Lib.hid (fun W (hW : Below wr.heap.size wr W) => refRights_any a t A1 A2 Ai a1 a2 ci W (((HH.out.below hbw).below hW).dta t Ai (by omega) (hg.below' hW)) (dtO_dsc HZA.out t hp0))
      have HMB := Lib.hid (fun W (hW : Below wr.heap.size wr W) => refRights_any b t B1 B2 Ai b1 b2 ci W (((HH.out.below hbw).below hW).dtb t Ai (by omega) (hg.below' hW)) (dtO_dsc HZB.out t hp0))
      have hra0 := rgtP_bd a t
      have hrb0 := rgtP_bd b t
      unfold morR at hf2
      rw [fstT] at hf2
      obtain ⟨ra, hra⟩ : ∃ x, x = rgtP a t := ⟨_, rfl⟩
      obtain ⟨rb, hrb⟩ : ∃ x, x = rgtP b t := ⟨_, rfl⟩
      rw [← hra] at HMA hf2 hra0
      rw [← hrb] at HMB hf2 hrb0
      have HF2 := Lib.hid hf2
      have HB2 := Lib.hid hb
      have HO2 := Lib.hid hown2
      have HBW := Lib.hid hbw
      have ba := BA.out.below HBWX.out
      have bb := BB.out.below HBWX.out
      have y0 : wr.cell? ⟨w.heap.size, 0, none⟩ = some (.int .i64 a.o) := Box.cells ba 0; have y1 : wr.cell? ⟨w.heap.size, 1, none⟩ = some (.int .i64 a.g) := Box.cells ba 1; have y2 : wr.cell? ⟨w.heap.size, 2, none⟩ = some (.bool a.pr) := Box.cells ba 2; have y3 : wr.cell? ⟨w.heap.size, 3, none⟩ = some (.bool a.he) := Box.cells ba 3; have y4 : wr.cell? ⟨w.heap.size, 4, none⟩ = some (.slice A1 a.es.length a1) := Box.cells ba 4; have y5 : wr.cell? ⟨w.heap.size, 5, none⟩ = some (.slice A2 a.us.length a2) := Box.cells ba 5
      have z0 : wr.cell? ⟨w.heap.size + 1, 0, none⟩ = some (.int .i64 b.o) := Box.cells bb 0; have z1 : wr.cell? ⟨w.heap.size + 1, 1, none⟩ = some (.int .i64 b.g) := Box.cells bb 1; have z2 : wr.cell? ⟨w.heap.size + 1, 2, none⟩ = some (.bool b.pr) := Box.cells bb 2; have z3 : wr.cell? ⟨w.heap.size + 1, 3, none⟩ = some (.bool b.he) := Box.cells bb 3; have z4 : wr.cell? ⟨w.heap.size + 1, 4, none⟩ = some (.slice B1 b.es.length b1) := Box.cells bb 4; have z5 : wr.cell? ⟨w.heap.size + 1, 5, none⟩ = some (.slice B2 b.us.length b2) := Box.cells bb 5
      have l0 : w.heap.size < wr.heap.size := ba.lt
      have l1 : w.heap.size + 1 < wr.heap.size := bb.lt
      have l2 : w.heap.size + 1 + 1 < wr.heap.size := brr.lt
      unfold dscV tokV at HMA HMB
      clear hf hf2 hd hv hv' ht hown1 hown2 g0 g1 g2 hcl hbw hg hra hrb hb hp0 ba bb brr
      go_wp2
      have hgX := regcell (Below.refl _ wr)
      (refine wp_region_quiet_below (by kernel_rfl) (by kernel_rfl) ?_; (repeat (go_big_quiet_step ((first | (go_at_call 17; (with_reducible exact Calls.regrown_of (HMA.out _ (below_regrown wr _ _)))) | (go_at_call 17; (with_reducible exact Calls.regrown_of (HMB.out _ (below_regrown wr _ _)))))))); (with_reducible refine wpQuiet_nil ?_); intro X2 hreg; have hbX2 := below_of_reg hreg; clear hreg; obtain ⟨hcX2, hfX2⟩ := bcell hbX2)
      have HX2 := Lib.hid hbX2
      have br2 := HBR.out.below hbX2
      have d0 : X2.cell? ⟨bl, ol + j * 3, none⟩ = _ := (hcX2 _ _ hBlr).trans c0
      have d1 : X2.cell? ⟨bl, ol + j * 3 + 1, none⟩ = _ := (hcX2 _ _ hBlr).trans c1
      have d2 : X2.cell? ⟨bl, ol + j * 3 + 1 + 1, none⟩ = _ := (hcX2 _ _ hBlr).trans c2
      have hBl2 : bl < X2.heap.size := Nat.lt_of_lt_of_le hBlr hbX2.size
      clear y0 y1 y2 y3 y4 y5 z0 z1 z2 z3 z4 z5 hbX2 hcX2 hfX2 hgX c0 c1 c2
      have HMV := Lib.hid (andNot_bits rb ra hrb0.1 (by omega) hra0.1 (by omega))
      obtain ⟨v, hv⟩ : ∃ v, bits .and .i64 rb ra = v := ⟨_, rfl⟩
      have hmv := HMV.out
      rw [hv] at hmv
      by_cases hq0 : v = rb
      · have hF3 : Q = morR a b ((ps.drop (j + 1)).map (·.2)) := by
          rw [HF2.out, if_neg (by unfold moreF; rw [hmv.1, hq0]; simp)]; rfl
        subst hq0
        have HF3 := Lib.hid hF3
        clear hF3 hmv
        go_wp2
        go_roundw
        case rel => exact ⟨j + 1, by omega, by go_num, bel_trans HB2.out HX2.out, HF3.out⟩
        case measure => simp [intOf]; omega
      · have hF3 : Q = (t, rb - v) := by
          rw [HF2.out, if_pos (by unfold moreF; rw [hmv.1]; omega)]
          show (t, moreF ra rb) = _
          unfold moreF
          rw [hmv.1]
        have hq0' : (v != rb) = true := by simpa using hq0
        obtain ⟨_, hv0, hv1⟩ := hmv
        have HF3 := Lib.hid hF3
        clear hF3 hq0
        go_wp2_with (refine wpList_store_newG rfl 27 (.tmp 6) (.tmp 40) rfl rfl (w.heap.size + 1 + 1) #[.int .i64 t.u, .slice Ai t.gs.length ci, .int .i64 t.p] rfl rfl 27 _ br2 (by kernel_rfl) (by kernel_rfl) (by kernel_rfl) ?_; intro W4 g4 br4 keep4)
        have hb4 := g4.belowAt (bel_trans HBW.out HX2.out) (by omega)
        have hown4 : W4.ownsRow w.heap.size 3 1 (.slice Ai t.gs.length ci) t.gs.length (t.gs.map (.int .i64)) := ownsRow_mono (ownsRow_grw (ownsRow_below (ownsRow_below HO2.out HB2.out) HX2.out) g4 (by omega)) (by omega)
        rw [HF3.out]
        exact bodyPost_ret (results_cell1b Tryz.results32 _ W4 (w.heap.size + 1 + 1) 27 _ _ _ rfl rfl br4 Tryz.underlying27 rfl (by kernel_rfl)) rfl ⟨Ai, ci, rfl, hown4, hb4⟩
    · have hQ5 : Q = morR a b [] := by rw [hf, List.drop_of_length_le (by omega)]; rfl
      clear hf hb
      go_wp2_with (refine wpList_store_newG rfl 27 (.tmp 6) (.tmp 46) rfl rfl (w.heap.size + 1 + 1) #[.int .i64 0, .slice none 0 0, .int .i64 0] rfl rfl 27 _ HBR.out (by kernel_rfl) (by kernel_rfl) (by kernel_rfl) ?_; intro W4 g4 br4 keep4)
      have hb4 := g4.belowAt hbw (by omega)
      rw [hQ5]
      exact bodyPost_ret (results_cell1b Tryz.results32 _ W4 (w.heap.size + 1 + 1) 27 _ _ _ rfl rfl br4 Tryz.underlying27 rfl (by kernel_rfl)) rfl ⟨none, 0, rfl, World.ownsRow_nil _ _ _ _, hb4⟩
end Go.Proofs.YtanicpgmbhfipaaGreatDoor
