/-
  Chapter 17: copies of descriptors, owned; those in drawn regions with stores.
-/
import Derived.Test.YtanicpgmbhfipaaDoorAcDfr
import Derived.Test.YtanicpgmbhfipaaDoorAcDcd
namespace Go.Proofs.YtanicpgmbhfipaaDoor
set_option linter.unusedVariables false
set_option linter.unusedSimpArgs false
open Go.RowKit Go.Sort

set_option maxRecDepth 100000 in
set_option maxHeartbeats 2000000 in
theorem CopyDsc_own (d : DscP) (A1 A2 : Option Addr) (c1 c2 : Nat) (w : World) (h1 : d.es.length ≤ 500) (h2 : d.us.length ≤ 500) (hr1 : Rd w w.heap.size A1 (acesV d.es)) (hr2 : Rd w w.heap.size A2 (acesV d.us)) :
    Calls Tryd.prog 11 #[dscV d A1 A2 c1 c2] w fun e w' => ∃ B1 B2 k1 k2, e = .returned (dscV d B1 B2 k1 k2) ∧ w'.ownsRow w.heap.size 34 4 (.slice B1 d.es.length k1) d.es.length (acesV d.es) ∧ w'.ownsRow w.heap.size 34 4 (.slice B2 d.us.length k2) d.us.length (acesV d.us) ∧ Below w.heap.size w w' := by
  have HR1 := Lib.hid hr1
  have HR2 := Lib.hid hr2
  unfold dscV
  obtain ⟨o, g, pr, he, es, us⟩ := d
  dsimp only at *
  have bD := (Box.new w #[.int .i64 o, .int .i64 g, .bool pr, .bool he, .slice A1 es.length c1, .slice A2 us.length c2] 24).old (.cells #[.int .i64 0, .int .i64 0, .bool false, .bool false, .slice none 0 0, .slice none 0 0] 24)
  have bR := Box.new (w.alloc (.cells #[.int .i64 o, .int .i64 g, .bool pr, .bool he, .slice A1 es.length c1, .slice A2 us.length c2] 24)) #[.int .i64 0, .int .i64 0, .bool false, .bool false, .slice none 0 0, .slice none 0 0] 24
  rw [World.size_alloc] at bR
  have hb0 : Below w.heap.size w ((w.alloc (.cells #[.int .i64 o, .int .i64 g, .bool pr, .bool he, .slice A1 es.length c1, .slice A2 us.length c2] 24)).alloc (.cells #[.int .i64 0, .int .i64 0, .bool false, .bool false, .slice none 0 0, .slice none 0 0] 24)) := bel_alloc (bel_alloc (Below.refl _ _) _) _
  obtain ⟨W0, hW0⟩ : ∃ W0, W0 = (w.alloc (.cells #[.int .i64 o, .int .i64 g, .bool pr, .bool he, .slice A1 es.length c1, .slice A2 us.length c2] 24)).alloc (.cells #[.int .i64 0, .int .i64 0, .bool false, .bool false, .slice none 0 0, .slice none 0 0] 24) := ⟨_, rfl⟩
  rw [← hW0] at bD bR hb0
  have HW0 := Lib.hid hW0
  have BD := Lib.hid bD
  have BR := Lib.hid bR
  have HB0 := Lib.hid hb0
  have hs0 : W0.heap.size = w.heap.size + 1 + 1 := by rw [hW0]; simp only [World.size_alloc]
  have y4 : W0.cell? ⟨w.heap.size, 4, none⟩ = some (.slice A1 es.length c1) := bD.cells 4
  have y5 : W0.cell? ⟨w.heap.size, 5, none⟩ = some (.slice A2 us.length c2) := bD.cells 5
  have l0 : w.heap.size < W0.heap.size := bD.lt
  clear hW0 bD bR hb0 hr1 hr2 hs0
  go_enter Tryd.func11, Tryd.ntmps11
  go_wp2
  rw [← HW0.out]
  (refine wp_region_flow [false, false, true, false, false, true, false] [⟨2, [], RowA W0.heap.size es, false⟩, ⟨5, [], RowA W0.heap.size us, false⟩] (by kernel_rfl) (by kernel_rfl) (by kernel_rfl) (by kernel_rfl) ?_; simp only [pick, List.length_cons, List.length_nil, List.drop_succ_cons, List.drop_zero, Nat.zero_add, Nat.reduceAdd]; apply Exists.intro; refine ⟨fun X hX => ?_, ?_⟩; (focus (obtain ⟨hcX, hfX⟩ := bcell hX; have hgX := regcell hX; have hsX := hX.size; (try simp only [World.size_alloc] at hsX); (repeat (go_big_quiet_step ((first | fail)))); exact wpQuiet_nil rfl)); simp only [wpND, told, toldAll, List.contains_cons, List.contains_nil, List.mem_cons, List.not_mem_nil, forall_eq_or_imp, false_implies, implies_true, and_true, Nat.reduceBEq, BEq.rfl, beq_self_eq_true, Bool.or_false, Bool.false_or, Bool.true_or, Bool.or_true, Bool.false_eq_true, if_true, if_false, true_implies, dstAt, List.getElem?_toArray, List.getElem?_cons_succ, List.getElem?_cons_zero, Option.some.injEq, forall_eq', Option.bind_some, Act.put, List.setIfInBounds_toArray, List.set_cons_succ, List.set_cons_zero])
  refine ⟨RowA.stable, fun X hX => ?_, fun v1 => ⟨RowA.stable, fun X hX => ?_, fun v2 X hX hf => ?_⟩⟩
  · refine leaves_call' (f := 16) (args := #[.slice A1 es.length c1]) (by kernel_rfl) ((CopyAces_it A1 c1 es X (by omega) (HR1.out.below' (bel_trans HB0.out hX))).mono ?_)
    rintro e w' ⟨A', c', rfl, ho, hb⟩
    exact ⟨_, rfl, hb, A', c', rfl, ownsRow_mono ho hX.size⟩
  · refine leaves_call' (f := 16) (args := #[.slice A2 us.length c2]) (by kernel_rfl) ((CopyAces_it A2 c2 us X (by omega) (HR2.out.below' (bel_trans HB0.out hX))).mono ?_)
    rintro e w' ⟨A', c', rfl, ho, hb⟩
    exact ⟨_, rfl, hb, A', c', rfl, ownsRow_mono ho hX.size⟩
  · obtain ⟨⟨B2, k2, rfl, ho2⟩, B1, k1, rfl, ho1⟩ := hf
    have hbX := bel_trans HB0.out hX
    have bd := BD.out.below hX
    have br := BR.out.below hX
    have hne : w.heap.size + 1 ≠ w.heap.size := by omega
    have HX := Lib.hid hX
    have HO1 := Lib.hid ho1
    have HO2 := Lib.hid ho2
    clear hX y4 y5 l0 ho1 ho2
    refine wpList_store_fieldG rfl 22 (.tmp 9) (.tmp 5) rfl rfl w.heap.size 4 (.slice B1 es.length k1) rfl rfl rfl (by kernel_rfl) 24 _ bd (by simp) ?_
    intro W2 g2 bd2 keep2
    have br2 := keep2 _ _ _ hne br
    go_wp2_with (first | (at_builtin; fail) | (refine wpList_store_fieldG rfl 22 (.tmp 10) (.tmp 8) rfl rfl w.heap.size 5 (.slice B2 us.length k2) rfl rfl rfl (by kernel_rfl) 24 _ bd2 (by simp) ?_; intro W3 g3 bd3 keep3; have br3 := keep3 _ _ _ hne br2; have y0 : W3.cell? ⟨w.heap.size, 0, none⟩ = some (.int .i64 o) := bd3.cells 0; have y1 : W3.cell? ⟨w.heap.size, 1, none⟩ = some (.int .i64 g) := bd3.cells 1; have y2 : W3.cell? ⟨w.heap.size, 2, none⟩ = some (.bool pr) := bd3.cells 2; have y3 : W3.cell? ⟨w.heap.size, 3, none⟩ = some (.bool he) := bd3.cells 3; have y4 : W3.cell? ⟨w.heap.size, 4, none⟩ = some (.slice B1 es.length k1) := bd3.cells 4; have y5 : W3.cell? ⟨w.heap.size, 5, none⟩ = some (.slice B2 us.length k2) := bd3.cells 5) | (refine wpList_store_newG rfl 24 (.tmp 2) (.tmp 11) rfl rfl (w.heap.size + 1) #[.int .i64 o, .int .i64 g, .bool pr, .bool he, .slice B1 es.length k1, .slice B2 us.length k2] rfl rfl 24 _ br3 (by kernel_rfl) (by kernel_rfl) (by kernel_rfl) ?_; intro W4 g4 br4 keep4; clear y0 y1 y2 y3 y4 y5))
    have hb4 := g4.belowAt (g3.belowAt (g2.belowAt hbX (Nat.le_refl _)) (Nat.le_refl _)) (by omega)
    have hs0 : W0.heap.size = w.heap.size + 1 + 1 := by rw [HW0.out]; simp only [World.size_alloc]
    have o1 := ownsRow_grw (ownsRow_grw (ownsRow_grw HO1.out g2 (by omega)) g3 (by omega)) g4 (by omega)
    have o2 := ownsRow_grw (ownsRow_grw (ownsRow_grw HO2.out g2 (by omega)) g3 (by omega)) g4 (by omega)
    exact bodyPost_ret (results_cell1 Tryd.results11 _ W4 (w.heap.size + 1) 24 _ _ rfl br4 Tryd.underlying24 rfl (by kernel_rfl)) rfl ⟨B1, B2, k1, k2, rfl, ownsRow_mono o1 (by omega), ownsRow_mono o2 (by omega), hb4⟩
/-- copies, where boxes of tokens are written meanwhile -/
def DscW (B : Nat) (d : DscP) (_ : Act) (v : Value) (X : World) : Prop := ∃ B1 B2 k1 k2, v = dscV d B1 B2 k1 k2 ∧ X.ownsRow B 34 4 (.slice B1 d.es.length k1) d.es.length (acesV d.es) ∧ X.ownsRow B 34 4 (.slice B2 d.us.length k2) d.us.length (acesV d.us)
def IntsW (B : Nat) (l : List Int) (_ : Act) (v : Value) (X : World) : Prop := ∃ A c, v = .slice A l.length c ∧ X.ownsRow B 3 1 (.slice A l.length c) l.length (l.map (.int .i64))
def DifW (B : Nat) (t : TokP) (vs : List Value) (_ : Act) (v : Value) (X : World) : Prop := ∃ A c, v = .tuple (tokV t A c :: vs).toArray ∧ X.ownsRow B 3 1 (.slice A t.gs.length c) t.gs.length (t.gs.map (.int .i64))
def TokW (B : Nat) (t : TokP) (_ : Act) (v : Value) (X : World) : Prop := ∃ A c, v = tokV t A c ∧ X.ownsRow B 3 1 (.slice A t.gs.length c) t.gs.length (t.gs.map (.int .i64))
theorem DscW.stable {B : Nat} {d : DscP} (g : Act) (v : Value) (X X' : World) (h : DscW B d g v X) (hb : Below X.heap.size X X') : DscW B d g v X' := by
  obtain ⟨B1, B2, k1, k2, h1, h2, h3⟩ := h; exact ⟨B1, B2, k1, k2, h1, ownsRow_below h2 hb, ownsRow_below h3 hb⟩
theorem DscW.grw {B N : Nat} {d : DscP} (g : Act) (v : Value) (X X' : World) (h : DscW B d g v X) (hX : Grw (BoxesO N 27) X X') : DscW B d g v X' := by
  obtain ⟨B1, B2, k1, k2, h1, h2, h3⟩ := h; exact ⟨B1, B2, k1, k2, h1, ownsRow_boxes h2 hX (by decide), ownsRow_boxes h3 hX (by decide)⟩
theorem IntsW.stable {B : Nat} {l : List Int} (g : Act) (v : Value) (X X' : World) (h : IntsW B l g v X) (hb : Below X.heap.size X X') : IntsW B l g v X' := by
  obtain ⟨A, c, h1, h2⟩ := h; exact ⟨A, c, h1, ownsRow_below h2 hb⟩
theorem IntsW.grw {B N : Nat} {l : List Int} (g : Act) (v : Value) (X X' : World) (h : IntsW B l g v X) (hX : Grw (BoxesO N 27) X X') : IntsW B l g v X' := by
  obtain ⟨A, c, h1, h2⟩ := h; exact ⟨A, c, h1, ownsRow_boxes h2 hX (by decide)⟩
theorem DifW.stable {B : Nat} {t : TokP} {vs : List Value} (g : Act) (v : Value) (X X' : World) (h : DifW B t vs g v X) (hb : Below X.heap.size X X') : DifW B t vs g v X' := by
  obtain ⟨A, c, h1, h2⟩ := h; exact ⟨A, c, h1, ownsRow_below h2 hb⟩
theorem DifW.grw {B N : Nat} {t : TokP} {vs : List Value} (g : Act) (v : Value) (X X' : World) (h : DifW B t vs g v X) (hX : Grw (BoxesO N 27) X X') : DifW B t vs g v X' := by
  obtain ⟨A, c, h1, h2⟩ := h; exact ⟨A, c, h1, ownsRow_boxes h2 hX (by decide)⟩
theorem TokW.stable {B : Nat} {t : TokP} (g : Act) (v : Value) (X X' : World) (h : TokW B t g v X) (hb : Below X.heap.size X X') : TokW B t g v X' := by
  obtain ⟨A, c, h1, h2⟩ := h; exact ⟨A, c, h1, ownsRow_below h2 hb⟩
theorem TokW.grw {B N : Nat} {t : TokP} (g : Act) (v : Value) (X X' : World) (h : TokW B t g v X) (hX : Grw (BoxesO N 27) X X') : TokW B t g v X' := by
  obtain ⟨A, c, h1, h2⟩ := h; exact ⟨A, c, h1, ownsRow_boxes h2 hX (by decide)⟩
theorem leafW_dsc {B : Nat} {d : DscP} {A1 A2 : Option Addr} {c1 c2 : Nat} {g : Act} {X : World} {s : Sem Next} (h : s.run Tryd.prog X = .ok (.enter 11 #[dscV d A1 A2 c1 c2]) X) (hB : B ≤ X.heap.size) (h1 : d.es.length ≤ 500) (h2 : d.us.length ≤ 500) (hr1 : Rd X X.heap.size A1 (acesV d.es)) (hr2 : Rd X X.heap.size A2 (acesV d.us)) :
    LeavesR Tryd.prog (DscW B d g) X (s.run Tryd.prog X) := by
  refine leaves_call' h ((CopyDsc_own d A1 A2 c1 c2 X h1 h2 hr1 hr2).mono ?_)
  rintro e W1 ⟨B1, B2, k1, k2, rfl, g1, g2, hb⟩
  exact ⟨_, rfl, hb, B1, B2, k1, k2, rfl, ownsRow_mono g1 hB, ownsRow_mono g2 hB⟩
theorem leafW_ints {B : Nat} {l : List Int} {A : Option Addr} {c : Nat} {g : Act} {X : World} {s : Sem Next} (h : s.run Tryd.prog X = .ok (.enter 32 #[.slice A l.length c]) X) (hB : B ≤ X.heap.size) (hl : l.length ≤ 100000) (hr : Rd X X.heap.size A (l.map (.int .i64))) :
    LeavesR Tryd.prog (IntsW B l g) X (s.run Tryd.prog X) := by
  refine leaves_call' h ((CopyInts_it A c l X (by omega) hr).mono ?_)
  rintro e W1 ⟨A', c', rfl, ho, hb⟩
  exact ⟨_, rfl, hb, A', c', rfl, ownsRow_mono ho hB⟩
end Go.Proofs.YtanicpgmbhfipaaDoor
