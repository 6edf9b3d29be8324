/-
  Chapter 17: the first token for which two descriptors differ.
  Chapter 17: DifferenceOf, MoreIn, SameToken; the descriptor of the examples.
  Chapter 17: the examples.
  Chapter 17: what the walks of the laws share: bits of masks, copies in drawn regions.
  Chapter 17: whether a file may be deleted.
  Chapter 17: what AccessDenies asks of decisions (plain): denied first; rights without an entry that denies.
-/
import Derived.Test.YtanicpgmbhfipaaGreatDoorKitD
namespace Go.Proofs.YtanicpgmbhfipaaGreatDoor
set_option linter.unusedVariables false
set_option linter.unusedSimpArgs false
open Go.RowKit Go.Sort
theorem results_cell2 {P : Program} {fn : Func} {p q r : Tmp} {ty : TypeId} (h : fn.results = #[.cell p ty, .tmp q, .tmp r]) (tmps : Array Value) (w : World) (g : Nat) (t : TypeId) (cs : Array Value) (d : TypeDesc) (u v : Value)
 (hp : tmps.getD p undef = .pointer (some ⟨g, 0, none⟩)) (hq : tmps.getD q undef = u) (hr : tmps.getD r undef = v) (hg : Box w g cs t)
 (hu : P.underlying ty = some d) (hd : (match d with | .struct _ | .array _ _ => true | _ => false) = true) (hi : (P.info? ty).map (·.size) = some cs.size) :
 (results fn tmps).run P w = .ok (.tuple #[.agg cs, u, v]) w := by
 have hp' : tmps[p]?.getD undef = .pointer (some ⟨g, 0, none⟩) := by simpa using hp
 have hq' : tmps[q]?.getD undef = u := by simpa using hq
 have hr' : tmps[r]?.getD undef = v := by simpa using hr
 simp [results, h, hp', hq', hr', asAddr, run_loadVar_row w g t ty cs (0, 0) d hg hu hd hi]
def cmpE (a b : DscP) (who : List Int) : Int := firstE [dscE a, dscE b, whoE who]
def fstT (F : Int → Int → Int) (a b : DscP) : List TokP → Option (TokP × Int)
 | [] => none
 | t :: r => if F (rgtP a t) (rgtP b t) ≠ 0 then some (t, F (rgtP a t) (rgtP b t)) else fstT F a b r
def noT : TokP := ⟨0, [], 0⟩
def cmpR (F : Int → Int → Int) (a b : DscP) (who : List Int) : TokP × Int × Int :=
 if cmpE a b who ≠ 0 then (noT, 0, cmpE a b who) else match fstT F a b (toksP who) with | some (t, n) => (t, n, 0) | none => (noT, 0, 12)
def CmpPost (w : World) (r : TokP × Int × Int) (e : Ending) (w' : World) : Prop := ∃ A c, e = .returned (.tuple #[tokV r.1 A c, .int .i64 r.2.1, .int .i64 r.2.2]) ∧ w'.ownsRow w.heap.size 3 1 (.slice A r.1.gs.length c) r.1.gs.length (r.1.gs.map (.int .i64)) ∧ Below w.heap.size w w'
structure DD (a b : DscP) (who : List Int) (A1 A2 B1 B2 A : Option Addr) (w : World) : Prop where
 a1 : a.es.length ≤ 500
 a2 : a.us.length ≤ 500
 b1 : b.es.length ≤ 500
 b2 : b.us.length ≤ 500
 l3 : who.length ≤ 1000
 ra1 : Rd w w.heap.size A1 (acesV a.es)
 ra2 : Rd w w.heap.size A2 (acesV a.us)
 rb1 : Rd w w.heap.size B1 (acesV b.es)
 rb2 : Rd w w.heap.size B2 (acesV b.us)
 r3 : Rd w w.heap.size A (who.map (.int .i64))
 gr : GrT w
theorem DD.below {a b : DscP} {who : List Int} {A1 A2 B1 B2 A : Option Addr} {w w' : World} (h : DD a b who A1 A2 B1 B2 A w) (hb : Below w.heap.size w w') : DD a b who A1 A2 B1 B2 A w' :=
 ⟨h.a1, h.a2, h.b1, h.b2, h.l3, h.ra1.below' hb, h.ra2.below' hb, h.rb1.below' hb, h.rb2.below' hb, h.r3.below' hb, h.gr.below hb⟩
theorem DD.dta {a b : DscP} {who : List Int} {A1 A2 B1 B2 A : Option Addr} {w : World} (h : DD a b who A1 A2 B1 B2 A w) (t : TokP) (C : Option Addr) (hl : t.gs.length ≤ 1000) (hr : Rd w w.heap.size C (t.gs.map (.int .i64))) : DT a t A1 A2 C w := ⟨h.a1, h.a2, hl, h.ra1, h.ra2, hr, h.gr⟩
theorem DD.dtb {a b : DscP} {who : List Int} {A1 A2 B1 B2 A : Option Addr} {w : World} (h : DD a b who A1 A2 B1 B2 A w) (t : TokP) (C : Option Addr) (hl : t.gs.length ≤ 1000) (hr : Rd w w.heap.size C (t.gs.map (.int .i64))) : DT b t B1 B2 C w := ⟨h.b1, h.b2, hl, h.rb1, h.rb2, hr, h.gr⟩
theorem dtO_dsc {d : DscP} (h : dscE d = 0) (t : TokP) (hp : t.p = 0) : dtO d t := by
 obtain ⟨_, _, _, _, _, h3, _⟩ := dscE_zero h
 exact ⟨fun a ha => (aceO_of (h3 a ha).1).1, by omega, by omega⟩
theorem toksP_p (l : List Int) : ∀ t ∈ toksP l, t.p = 0 ∧ ∀ n, n = l.length → t.gs.length ≤ n := by
 intro t ht
 unfold toksP toksN at ht
 obtain ⟨i, hi, ht⟩ := List.mem_flatMap.1 ht
 unfold toksAt at ht
 obtain ⟨s, hs, rfl⟩ := List.mem_map.1 ht
 refine ⟨rfl, fun n hn => ?_⟩
 subst hn
 have hi' : i < l.length := by simpa using hi
 have h1 : ∀ (l : List Int) (k : Nat) (s : List Int), s ∈ subL l k → s.length ≤ l.length := by
  intro l
  induction l with
  | nil =>
   intro k s hs
   cases k with
   | zero =>
    have : s = [] := by simpa [subL] using hs
    subst this; simp
   | succ k => simp [subL] at hs
  | cons x l ih =>
   intro k s hs
   cases k with
   | zero =>
    have : s = [] := by simpa [subL] using hs
    subst this; simp
   | succ k =>
    simp only [subL, List.mem_append, List.mem_map] at hs
    rcases hs with ⟨u, hu, rfl⟩ | hs
    · have := ih k u hu; simp; omega
    · have := ih (k + 1) s hs; simp; omega
 unfold setsP at hs
 obtain ⟨k, _, hk⟩ := List.mem_flatMap.1 hs
 have := h1 _ k s hk
 rw [othL_len l i hi'] at this
 show s.length ≤ _
 omega
theorem toksV_length (l : List (Value × TokP)) : (toksV l).length = l.length * 3 := by
 induction l with
 | nil => rfl
 | cons a l ih => unfold toksV at ih ⊢; rw [List.flatMap_cons, List.length_append, ih, List.length_cons]; show 3 + _ = _; omega
theorem toksV_get : ∀ (l : List (Value × TokP)) (k : Nat) (h : k < l.length), (toksV l)[k * 3]? = some (.int .i64 l[k].2.u) ∧ (toksV l)[k * 3 + 1]? = some l[k].1 ∧ (toksV l)[k * 3 + 1 + 1]? = some (.int .i64 l[k].2.p)
 | [], k, h => by simp at h
 | a :: l, 0, _ => ⟨rfl, rfl, rfl⟩
 | a :: l, k + 1, h => by
  have := toksV_get l k (by simpa using h)
  unfold toksV at this ⊢
  simp only [List.flatMap_cons, tokCl, Nat.add_mul, Nat.one_mul, List.cons_append, List.nil_append, List.getElem_cons_succ]
  exact this
theorem whoE_zero {l : List Int} (h : whoE l = 0) : l.length ≤ 5 ∧ usersE l = 0 := by
 have hz := firstE_zero h
 have h1 := unl_zero (by decide) (hz (unl (decide (l.length ≤ 5)) 8) (by simp))
 exact ⟨by simpa using h1, hz _ (by simp)⟩
def xorF (x y : Int) : Int := bits .xor .i64 x y
theorem xor_told (x y : Int) (w : World) : Calls Tryz.prog 65 #[.int .i64 x, .int .i64 y] w fun e w' => e = .returned (.int .i64 (xorF x y)) ∧ w = w' := by
 unfold xorF
 go_enter Tryz.func65, Tryz.ntmps65
 go_wp2
 go_ret
 exact ⟨rfl, rfl⟩
set_option maxRecDepth 100000 in
set_option maxHeartbeats 4000000 in
theorem xor_compared (a b : DscP) (who : List Int) (A1 A2 B1 B2 A : Option Addr) (a1 a2 b1 b2 c : Nat) (w : World) (h : DD a b who A1 A2 B1 B2 A w) (hc : who.length ≤ c) (hcm : c ≤ maxLen) :
 Calls Tryz.prog 64 #[dscV a A1 A2 a1 a2, dscV b B1 B2 b1 b2, .slice A who.length c, .func (.func 65) #[] #[]] w (CmpPost w (cmpR xorF a b who)) := by
 have HDA := Lib.hid (fun W (hW : Below w.heap.size w W) => access_descriptorErr_any a A1 A2 a1 a2 W h.a1 h.a2 (h.below hW).ra1 (h.below hW).ra2)
 have HDB := Lib.hid (fun W (hW : Below w.heap.size w W) => access_descriptorErr_any b B1 B2 b1 b2 W h.b1 h.b2 (h.below hW).rb1 (h.below hW).rb2)
 have HWH := Lib.hid (fun W (hW : Below w.heap.size w W) => whoErr_any A c who W (by have := h.l3; omega) (h.below hW).r3)
 have HH := Lib.hid h
 obtain ⟨r, hr⟩ : ∃ r, r = cmpE a b who := ⟨_, rfl⟩
 obtain ⟨e1, he1⟩ : ∃ e, e = dscE a := ⟨_, rfl⟩
 obtain ⟨e2, he2⟩ : ∃ e, e = dscE b := ⟨_, rfl⟩
 obtain ⟨e3, he3⟩ : ∃ e, e = whoE who := ⟨_, rfl⟩
 obtain ⟨Q, hQ⟩ : ∃ Q, Q = cmpR xorF a b who := ⟨_, rfl⟩
 have hQ2 : Q = if r ≠ 0 then (noT, 0, r) else match fstT xorF a b (toksP who) with | some (t, n) => (t, n, 0) | none => (noT, 0, 12) := by rw [hQ, hr]; rfl
 rw [← hQ]
 have H0 := Lib.hid (show r = firstE [e1, e2, e3] by rw [hr, he1, he2, he3]; rfl)
 have hz : r = 0 → dscE a = 0 ∧ dscE b = 0 ∧ whoE who = 0 := fun h0 => by
  have hz := firstE_zero (l := [dscE a, dscE b, whoE who]) (by rw [← h0, hr]; rfl)
  exact ⟨hz _ (by simp), hz _ (by simp), hz _ (by simp)⟩
 rw [← he1] at HDA
 rw [← he2] at HDB
 rw [← he3] at HWH
 have hs3 : ((w.alloc (.cells (dscC a A1 A2 a1 a2) 24)).alloc (.cells (dscC b B1 B2 b1 b2) 24)).heap.size = w.heap.size + 1 + 1 := by simp only [World.size_alloc]
 have bA := ((Box.new w (dscC a A1 A2 a1 a2) 24).old (.cells (dscC b B1 B2 b1 b2) 24)).old (.cells #[.int .i64 0, .slice none 0 0, .int .i64 0] 27)
 have bB := (Box.new (w.alloc (.cells (dscC a A1 A2 a1 a2) 24)) (dscC b B1 B2 b1 b2) 24).old (.cells #[.int .i64 0, .slice none 0 0, .int .i64 0] 27)
 rw [World.size_alloc] at bB
 have bR := Box.new ((w.alloc (.cells (dscC a A1 A2 a1 a2) 24)).alloc (.cells (dscC b B1 B2 b1 b2) 24)) #[.int .i64 0, .slice none 0 0, .int .i64 0] 27
 rw [hs3] at bR
 obtain ⟨W0, hW0⟩ : ∃ W0, W0 = ((w.alloc (.cells (dscC a A1 A2 a1 a2) 24)).alloc (.cells (dscC b B1 B2 b1 b2) 24)).alloc (.cells #[.int .i64 0, .slice none 0 0, .int .i64 0] 27) := ⟨_, rfl⟩
 rw [← hW0] at bA bB bR
 have hb0 : Below w.heap.size w W0 := by rw [hW0]; exact bel_alloc (bel_alloc (bel_alloc (Below.refl _ _) _) _) _
 have hs0 : W0.heap.size = w.heap.size + 1 + 1 + 1 := by rw [hW0]; simp only [World.size_alloc]
 have BA := Lib.hid bA
 have BB := Lib.hid bB
 have BR := Lib.hid bR
 have HB0 := Lib.hid hb0
 have HW0 := Lib.hid hW0
 have HQ := Lib.hid hQ2
 have HZ := Lib.hid hz
 have HS0 := Lib.hid hs0
 unfold dscV at *
 unfold dscC at BA
 unfold dscC at BB
 unfold dscC at HW0
 clear hr he1 he2 he3 h hQ hQ2 bA bB bR hb0 hW0 hz hs3 hs0
 go_enter Tryz.func64, Tryz.ntmps64
 go_wp2
 rw [← HW0.out]
 have ba0 := BA.out
 have bb0 := BB.out
 have y0 : W0.cell? ⟨w.heap.size, 0, none⟩ = some (.int .i64 a.o) := Box.cells ba0 0; have y1 : W0.cell? ⟨w.heap.size, 1, none⟩ = some (.int .i64 a.g) := Box.cells ba0 1; have y2 : W0.cell? ⟨w.heap.size, 2, none⟩ = some (.bool a.pr) := Box.cells ba0 2; have y3 : W0.cell? ⟨w.heap.size, 3, none⟩ = some (.bool a.he) := Box.cells ba0 3; have y4 : W0.cell? ⟨w.heap.size, 4, none⟩ = some (.slice A1 a.es.length a1) := Box.cells ba0 4; have y5 : W0.cell? ⟨w.heap.size, 5, none⟩ = some (.slice A2 a.us.length a2) := Box.cells ba0 5
 have z0 : W0.cell? ⟨w.heap.size + 1, 0, none⟩ = some (.int .i64 b.o) := Box.cells bb0 0; have z1 : W0.cell? ⟨w.heap.size + 1, 1, none⟩ = some (.int .i64 b.g) := Box.cells bb0 1; have z2 : W0.cell? ⟨w.heap.size + 1, 2, none⟩ = some (.bool b.pr) := Box.cells bb0 2; have z3 : W0.cell? ⟨w.heap.size + 1, 3, none⟩ = some (.bool b.he) := Box.cells bb0 3; have z4 : W0.cell? ⟨w.heap.size + 1, 4, none⟩ = some (.slice B1 b.es.length b1) := Box.cells bb0 4; have z5 : W0.cell? ⟨w.heap.size + 1, 5, none⟩ = some (.slice B2 b.us.length b2) := Box.cells bb0 5
 have l0 : w.heap.size < W0.heap.size := ba0.lt
 have l1 : w.heap.size + 1 < W0.heap.size := bb0.lt
 clear ba0 bb0
 (refine wp_region_flow [false, false, false, false, false, false, true, true] [⟨6, [], ErrsI W0.heap.size [e1, e2, e3], false⟩, ⟨7, [6], IntV r, false⟩] (by kernel_rfl) (by kernel_rfl) (by kernel_rfl) (by kernel_rfl) ?_; simp only [pick, List.length_cons, List.length_nil, List.drop_succ_cons, List.drop_zero, Nat.zero_add, Nat.reduceAdd]; apply Exists.intro; refine ⟨fun X hX => ?_, ?_⟩; (focus (obtain ⟨hcX, hfX⟩ := bcell hX; have hgX := regcell hX; have hsX := hX.size; (try simp only [World.size_alloc] at hsX); (repeat (go_big_quiet_step ((first | (go_at_call 52; (with_reducible exact Calls.regrown_of (HDA.out _ (bel_trans (bel_trans HB0.out hX) (below_regrown X _ _))))) | (go_at_call 52; (with_reducible exact Calls.regrown_of (HDB.out _ (bel_trans (bel_trans HB0.out hX) (below_regrown X _ _))))) | (go_at_call 62; (with_reducible exact Calls.regrown_of (HWH.out _ (bel_trans (bel_trans HB0.out hX) (below_regrown X _ _))))))))); exact wpQuiet_nil rfl)); simp only [wpND, told, toldAll, List.contains_cons, List.contains_nil, List.mem_cons, List.not_mem_nil, forall_eq_or_imp, false_implies, implies_true, and_true, Nat.reduceBEq, BEq.rfl, beq_self_eq_true, Bool.or_false, Bool.false_or, Bool.true_or, Bool.or_true, Bool.false_eq_true, if_true, if_false, true_implies, dstAt, List.getElem?_toArray, List.getElem?_cons_succ, List.getElem?_cons_zero, Option.some.injEq, forall_eq', Option.bind_some, Act.put, List.setIfInBounds_toArray, List.set_cons_succ, List.set_cons_zero])
 refine ⟨ErrsI.stable, fun X hX => ?_, fun v1 => ⟨IntV.stable, fun X hX hf => ?_, fun v2 X hX hf => ?_⟩⟩
 · exact leaves_alloc' (v := .slice (some ⟨X.heap.size, 0, none⟩) 3 3) (obj := .cells #[.int .i64 e1, .int .i64 e2, .int .i64 e3] 30) (by kernel_rfl) ⟨X.heap.size, rfl, hX.size, heap_alloc_new _ _⟩
 · refine leaves_call' (f := 51) (args := #[v1]) (by kernel_rfl) ?_
   rw [H0.out]
   exact access_first_errs [e1, e2, e3] (by simp) hf
 · obtain ⟨h2v, _⟩ := hf
   obtain rfl : v2 = .int .i64 r := h2v
   have hbX : Below w.heap.size w X := bel_trans HB0.out hX
   have br := BR.out.below hX
   have HBX := Lib.hid hbX
   have HX := Lib.hid hX
   clear y0 y1 y2 y3 y4 y5 z0 z1 z2 z3 z4 z5 l0 l1 hbX hX
   by_cases h0 : r = 0
   case neg =>
    have h0' : (r != 0) = true := by simpa using h0
    have H1 := Lib.hid (show Q = (noT, 0, r) by rw [HQ.out, if_pos h0])
    clear h0 HQ
    go_wp2_with (refine wpList_store_newG rfl 27 (.tmp 8) (.tmp 25) rfl rfl (w.heap.size + 1 + 1) #[.int .i64 0, .slice none 0 0, .int .i64 0] rfl rfl 27 _ br (by kernel_rfl) (by kernel_rfl) (by kernel_rfl) ?_; intro W4 g4 br4 keep4)
    have hb4 := g4.belowAt HBX.out (by omega)
    rw [H1.out]
    exact bodyPost_ret (results_cell2 Tryz.results64 _ W4 (w.heap.size + 1 + 1) 27 _ _ _ _ rfl rfl rfl br4 Tryz.underlying27 rfl (by kernel_rfl)) rfl ⟨none, 0, rfl, World.ownsRow_nil _ _ _ _, hb4⟩
   case pos =>
    subst h0
    obtain ⟨hza, hzb, hzw⟩ := HZ.out rfl
    obtain ⟨hw5, hwa⟩ := whoE_zero hzw
    obtain ⟨hasc, _⟩ := usersE_asc hwa
    have hQ3 : Q = match fstT xorF a b (toksP who) with | some (t, n) => (t, n, 0) | none => (noT, 0, 12) := HQ.out
    have HTK := Lib.hid (tokens_any A c who X hw5 hc hcm hasc (HH.out.below HBX.out).r3)
    have hcm' := hcm
    unfold maxLen at hcm'
    have HZA := Lib.hid hza
    have HZB := Lib.hid hzb
    have HQ3 := Lib.hid hQ3
    clear HQ HZ hza hzb hzw hwa hasc hQ3
    go_wp2_with (go_at_call 63; refine HTK.out.mono ?_; rintro e Wt ⟨ps, Bt, kt, rfl, hps, hown, hint, hbt⟩)
    have hpl : ps.length ≤ 80 := by
     have h1 := congrArg List.length hps
     rw [List.length_map] at h1
     have h2 := toksN_len who hw5 who.length (Nat.le_refl _)
     unfold toksP at h1
     omega
    have htk : ∀ p ∈ ps, p.2.p = 0 ∧ p.2.gs.length ≤ 5 := fun p hp => by
     have hm : p.2 ∈ toksP who := by rw [← hps]; exact List.mem_map_of_mem hp
     obtain ⟨h1, h2⟩ := toksP_p who p.2 hm
     exact ⟨h1, Nat.le_trans (h2 _ rfl) hw5⟩
    have HTKP := Lib.hid htk
    have HOWN := Lib.hid hown
    have HINT := Lib.hid hint
    have HBT := Lib.hid (bel_trans HBX.out hbt)
    have HBT2 := Lib.hid hbt
    have HQ4 := Lib.hid (show Q = match fstT xorF a b ((ps.drop 0).map (·.2)) with | some (t, n) => (t, n, 0) | none => (noT, 0, 12) by rw [List.drop_zero, hps]; exact HQ3.out)
    clear hown hint hbt hps htk HQ3
    go_loopw [30] (fun ix wr => ∃ j : Nat, j ≤ ps.length ∧ ix = .int .i64 j ∧ Below Wt.heap.size Wt wr ∧ Q = match fstT xorF a b ((ps.drop j).map (·.2)) with | some (t, n) => (t, n, 0) | none => (noT, 0, 12)) (fun ix _ => ps.length - (intOf ix).toNat)
    case atStart => exact ⟨0, Nat.zero_le _, rfl, Below.refl _ _, HQ4.out⟩
    case round =>
     obtain ⟨j, hj, rfl, hb, hf⟩ := hrel
     by_cases hlt : j < ps.length
     · obtain ⟨bl, ol, rfl, hBl, hcl⟩ := ((Rd.of_own HOWN.out).below hb).opened (by rw [toksV_length]; omega)
       obtain ⟨g0, g1, g2⟩ := toksV_get ps j hlt
       have c0 : wr.cell? ⟨bl, ol + j * 3, none⟩ = _ := hcl _ _ g0
       have c1 : wr.cell? ⟨bl, ol + j * 3 + 1, none⟩ = _ := hcl _ _ g1
       have c2 : wr.cell? ⟨bl, ol + j * 3 + 1 + 1, none⟩ = _ := hcl _ _ g2
       have hd : ps.drop j = ps[j] :: ps.drop (j + 1) := List.drop_eq_getElem_cons hlt
       obtain ⟨Ai, ci, hv, hown1⟩ := HINT.out ps[j] (List.getElem_mem hlt)
       obtain ⟨hp0, hg5⟩ := HTKP.out ps[j] (List.getElem_mem hlt)
       obtain ⟨t, ht⟩ : ∃ t, t = ps[j].2 := ⟨_, rfl⟩
       have hv' : ps[j].1 = .slice Ai t.gs.length ci := by rw [ht]; exact hv
       rw [hv'] at c1
       rw [← ht] at c0 c2 hp0 hg5
       have hown2 : Wt.ownsRow X.heap.size 3 1 (.slice Ai t.gs.length ci) t.gs.length (t.gs.map (.int .i64)) := by rw [ht]; exact hown1
       have hf2 : Q = match (if xorF (rgtP a t) (rgtP b t) ≠ 0 then some (t, xorF (rgtP a t) (rgtP b t)) else fstT xorF a b ((ps.drop (j + 1)).map (·.2))) with | some (t, n) => (t, n, 0) | none => (noT, 0, 12) := by
        rw [hf, hd, List.map_cons, fstT, ht]
       have hbw := bel_trans HBT.out hb
       have hg : Rd wr wr.heap.size Ai (t.gs.map (.int .i64)) := Rd.of_own (ownsRow_below hown2 hb)
       have HMA := Lib.hid (fun W (hW : Below wr.heap.size wr W) => most_any a t A1 A2 Ai a1 a2 ci W (((HH.out.below hbw).below hW).dta t Ai (by omega) (hg.below' hW)) (dtO_dsc HZA.out t hp0))
       have HMB := Lib.hid (fun W (hW : Below wr.heap.size wr W) => most_any b t B1 B2 Ai b1 b2 ci W (((HH.out.below hbw).below hW).dtb t Ai (by omega) (hg.below' hW)) (dtO_dsc HZB.out t hp0))
       obtain ⟨ra, hra⟩ : ∃ x, x = rgtP a t := ⟨_, rfl⟩
       obtain ⟨rb, hrb⟩ : ∃ x, x = rgtP b t := ⟨_, rfl⟩
       rw [← hra] at HMA hf2
       rw [← hrb] at HMB hf2
       have HTO := Lib.hid (fun W => xor_told ra rb W)
       obtain ⟨q, hq⟩ : ∃ x, x = xorF ra rb := ⟨_, rfl⟩
       rw [← hq] at HTO hf2
       have HF2 := Lib.hid hf2
       have HB2 := Lib.hid hb
       have HG := Lib.hid hg
       have HO2 := Lib.hid hown2
       have HBWX := Lib.hid (bel_trans HBT2.out hb)
       have ba := BA.out.below (bel_trans HX.out HBWX.out)
       have bb := BB.out.below (bel_trans HX.out HBWX.out)
       have brr := br.below HBWX.out
       have y0 : wr.cell? ⟨w.heap.size, 0, none⟩ = some (.int .i64 a.o) := Box.cells ba 0; have y1 : wr.cell? ⟨w.heap.size, 1, none⟩ = some (.int .i64 a.g) := Box.cells ba 1; have y2 : wr.cell? ⟨w.heap.size, 2, none⟩ = some (.bool a.pr) := Box.cells ba 2; have y3 : wr.cell? ⟨w.heap.size, 3, none⟩ = some (.bool a.he) := Box.cells ba 3; have y4 : wr.cell? ⟨w.heap.size, 4, none⟩ = some (.slice A1 a.es.length a1) := Box.cells ba 4; have y5 : wr.cell? ⟨w.heap.size, 5, none⟩ = some (.slice A2 a.us.length a2) := Box.cells ba 5
       have z0 : wr.cell? ⟨w.heap.size + 1, 0, none⟩ = some (.int .i64 b.o) := Box.cells bb 0; have z1 : wr.cell? ⟨w.heap.size + 1, 1, none⟩ = some (.int .i64 b.g) := Box.cells bb 1; have z2 : wr.cell? ⟨w.heap.size + 1, 2, none⟩ = some (.bool b.pr) := Box.cells bb 2; have z3 : wr.cell? ⟨w.heap.size + 1, 3, none⟩ = some (.bool b.he) := Box.cells bb 3; have z4 : wr.cell? ⟨w.heap.size + 1, 4, none⟩ = some (.slice B1 b.es.length b1) := Box.cells bb 4; have z5 : wr.cell? ⟨w.heap.size + 1, 5, none⟩ = some (.slice B2 b.us.length b2) := Box.cells bb 5
       have l0 : w.heap.size < wr.heap.size := ba.lt
       have l1 : w.heap.size + 1 < wr.heap.size := bb.lt
       have l2 : w.heap.size + 1 + 1 < wr.heap.size := brr.lt
       have HBR := Lib.hid brr
       unfold dscV tokV at HMA HMB
       clear hf hf2 hd hv hv' ht hown1 hown2 g0 g1 g2 hcl hbw hg hra hrb hq hb hp0 ba bb brr
       have bt := Box.new wr #[.int .i64 t.u, .slice Ai t.gs.length ci, .int .i64 t.p] 27
       have hba := bel_alloc (Below.refl _ wr) (.cells #[.int .i64 t.u, .slice Ai t.gs.length ci, .int .i64 t.p] 27)
       obtain ⟨WA, hWA⟩ : ∃ WA, WA = wr.alloc (.cells #[.int .i64 t.u, .slice Ai t.gs.length ci, .int .i64 t.p] 27) := ⟨_, rfl⟩
       rw [← hWA] at bt hba
       have HWA := Lib.hid hWA
       have HBA := Lib.hid hba
       have BTK := Lib.hid bt
       clear hWA hba bt
       go_wp2
       rw [← HWA.out]
       have ba := (BA.out.below (bel_trans HX.out HBWX.out)).below HBA.out
       have bb := (BB.out.below (bel_trans HX.out HBWX.out)).below HBA.out
       have btk := BTK.out
       have y0 : WA.cell? ⟨w.heap.size, 0, none⟩ = some (.int .i64 a.o) := Box.cells ba 0; have y1 : WA.cell? ⟨w.heap.size, 1, none⟩ = some (.int .i64 a.g) := Box.cells ba 1; have y2 : WA.cell? ⟨w.heap.size, 2, none⟩ = some (.bool a.pr) := Box.cells ba 2; have y3 : WA.cell? ⟨w.heap.size, 3, none⟩ = some (.bool a.he) := Box.cells ba 3; have y4 : WA.cell? ⟨w.heap.size, 4, none⟩ = some (.slice A1 a.es.length a1) := Box.cells ba 4; have y5 : WA.cell? ⟨w.heap.size, 5, none⟩ = some (.slice A2 a.us.length a2) := Box.cells ba 5
       have z0 : WA.cell? ⟨w.heap.size + 1, 0, none⟩ = some (.int .i64 b.o) := Box.cells bb 0; have z1 : WA.cell? ⟨w.heap.size + 1, 1, none⟩ = some (.int .i64 b.g) := Box.cells bb 1; have z2 : WA.cell? ⟨w.heap.size + 1, 2, none⟩ = some (.bool b.pr) := Box.cells bb 2; have z3 : WA.cell? ⟨w.heap.size + 1, 3, none⟩ = some (.bool b.he) := Box.cells bb 3; have z4 : WA.cell? ⟨w.heap.size + 1, 4, none⟩ = some (.slice B1 b.es.length b1) := Box.cells bb 4; have z5 : WA.cell? ⟨w.heap.size + 1, 5, none⟩ = some (.slice B2 b.us.length b2) := Box.cells bb 5
       have t0 : WA.cell? ⟨wr.heap.size, 0, none⟩ = some (.int .i64 t.u) := Box.cells btk 0
       have t1 : WA.cell? ⟨wr.heap.size, 1, none⟩ = some (.slice Ai t.gs.length ci) := Box.cells btk 1
       have t2 : WA.cell? ⟨wr.heap.size, 2, none⟩ = some (.int .i64 t.p) := Box.cells btk 2
       have m0 : w.heap.size < WA.heap.size := ba.lt
       have m1 : w.heap.size + 1 < WA.heap.size := bb.lt
       have m2 : wr.heap.size < WA.heap.size := btk.lt
       clear ba bb btk
       have hgX := regcell (Below.refl _ WA)
       (refine wp_region_quiet_below (by kernel_rfl) (by kernel_rfl) ?_; (repeat (go_big_quiet_step ((first | (go_at_call 54; (with_reducible exact Calls.regrown_of (HMA.out _ (bel_trans HBA.out (below_regrown WA _ _))))) | (go_at_call 54; (with_reducible exact Calls.regrown_of (HMB.out _ (bel_trans HBA.out (below_regrown WA _ _))))) | (go_at_call 65; (with_reducible exact Calls.reg_pure (HTO.out _))))))); (with_reducible refine wpQuiet_nil ?_); intro X2 hreg; have hbX2 := below_of_reg hreg; clear hreg; obtain ⟨hcX2, hfX2⟩ := bcell hbX2)
       have HX2 := Lib.hid (bel_trans HBA.out hbX2)
       have btk := BTK.out.below hbX2
       have t0 : X2.cell? ⟨wr.heap.size, 0, none⟩ = some (.int .i64 t.u) := Box.cells btk 0
       have t1 : X2.cell? ⟨wr.heap.size, 1, none⟩ = some (.slice Ai t.gs.length ci) := Box.cells btk 1
       have t2 : X2.cell? ⟨wr.heap.size, 2, none⟩ = some (.int .i64 t.p) := Box.cells btk 2
       have m2 : wr.heap.size < X2.heap.size := btk.lt
       have br2 := (HBR.out.below HBA.out).below hbX2
       clear y0 y1 y2 y3 y4 y5 z0 z1 z2 z3 z4 z5 hbX2 hcX2 hfX2 hgX btk
       by_cases hq0 : q = 0
       · subst hq0
         have hF3 := HF2.out
         rw [if_neg (by decide)] at hF3
         have HF3 := Lib.hid hF3
         clear hF3
         go_wp2
         go_roundw
         case rel => exact ⟨j + 1, by omega, by go_num, bel_trans HB2.out HX2.out, HF3.out⟩
         case measure => simp [intOf]; omega
       · have hq0' : (q != 0) = true := by simpa using hq0
         have hF3 := HF2.out
         rw [if_pos hq0] at hF3
         have HF3 := Lib.hid (show Q = (t, q, 0) from hF3)
         clear hF3 hq0
         go_wp2_with (refine wpList_store_newG rfl 27 (.tmp 8) (.tmp 48) rfl rfl (w.heap.size + 1 + 1) #[.int .i64 t.u, .slice Ai t.gs.length ci, .int .i64 t.p] rfl rfl 27 _ br2 (by kernel_rfl) (by kernel_rfl) (by kernel_rfl) ?_; intro W4 g4 br4 keep4)
         have hbx2 := bel_trans (bel_trans HBT.out HB2.out) HX2.out
         have hb4 := g4.belowAt hbx2 (by omega)
         have hown4 : W4.ownsRow w.heap.size 3 1 (.slice Ai t.gs.length ci) t.gs.length (t.gs.map (.int .i64)) := by
          have hx := HX.out.size
          have hs := HS0.out
          exact ownsRow_mono (ownsRow_grw (ownsRow_below (ownsRow_below HO2.out HB2.out) HX2.out) g4 (by omega)) (by omega)
         rw [HF3.out]
         exact bodyPost_ret (results_cell2 Tryz.results64 _ W4 (w.heap.size + 1 + 1) 27 _ _ _ _ rfl rfl rfl br4 Tryz.underlying27 rfl (by kernel_rfl)) rfl ⟨Ai, ci, rfl, hown4, hb4⟩
     · have hQ5 : Q = (noT, 0, 12) := by rw [hf, List.drop_of_length_le (by omega)]; rfl
       have brr := br.below (bel_trans HBT2.out hb)
       have HBR := Lib.hid brr
       have hbw := bel_trans HBT.out hb
       clear hf
       go_wp2_with (refine wpList_store_newG rfl 27 (.tmp 8) (.tmp 51) rfl rfl (w.heap.size + 1 + 1) #[.int .i64 0, .slice none 0 0, .int .i64 0] rfl rfl 27 _ HBR.out (by kernel_rfl) (by kernel_rfl) (by kernel_rfl) ?_; intro W4 g4 br4 keep4)
       have hb4 := g4.belowAt hbw (by omega)
       rw [hQ5]
       exact bodyPost_ret (results_cell2 Tryz.results64 _ W4 (w.heap.size + 1 + 1) 27 _ _ _ _ rfl rfl rfl br4 Tryz.underlying27 rfl (by kernel_rfl)) rfl ⟨none, 0, rfl, World.ownsRow_nil _ _ _ _, hb4⟩
end Go.Proofs.YtanicpgmbhfipaaGreatDoor
namespace Go.Proofs.YtanicpgmbhfipaaGreatDoor
set_option linter.unusedVariables false
set_option linter.unusedSimpArgs false
open Go.RowKit Go.Sort
def DifPost (w : World) (r : TokP × Int × Int) (e : Ending) (w' : World) : Prop := ∃ A c, e = .returned (.tuple #[tokV r.1 A c, .int .i64 r.2.2]) ∧ w'.ownsRow w.heap.size 3 1 (.slice A r.1.gs.length c) r.1.gs.length (r.1.gs.map (.int .i64)) ∧ Below w.heap.size w w'
set_option maxRecDepth 100000 in
set_option maxHeartbeats 2000000 in
theorem DifferenceOf_any (a b : DscP) (who : List Int) (A1 A2 B1 B2 A : Option Addr) (a1 a2 b1 b2 c : Nat) (w : World) (h : DD a b who A1 A2 B1 B2 A w) (hc : who.length ≤ c) (hcm : c ≤ maxLen) :
 Calls Tryz.prog 25 #[dscV a A1 A2 a1 a2, dscV b B1 B2 b1 b2, .slice A who.length c] w (DifPost w (cmpR xorF a b who)) := by
 have hs3 : ((w.alloc (.cells (dscC a A1 A2 a1 a2) 24)).alloc (.cells (dscC b B1 B2 b1 b2) 24)).heap.size = w.heap.size + 1 + 1 := by simp only [World.size_alloc]
 have bA := ((Box.new w (dscC a A1 A2 a1 a2) 24).old (.cells (dscC b B1 B2 b1 b2) 24)).old (.cells #[.int .i64 0, .slice none 0 0, .int .i64 0] 27)
 have bB := (Box.new (w.alloc (.cells (dscC a A1 A2 a1 a2) 24)) (dscC b B1 B2 b1 b2) 24).old (.cells #[.int .i64 0, .slice none 0 0, .int .i64 0] 27)
 rw [World.size_alloc] at bB
 have bR := Box.new ((w.alloc (.cells (dscC a A1 A2 a1 a2) 24)).alloc (.cells (dscC b B1 B2 b1 b2) 24)) #[.int .i64 0, .slice none 0 0, .int .i64 0] 27
 rw [hs3] at bR
 obtain ⟨W0, hW0⟩ : ∃ W0, W0 = ((w.alloc (.cells (dscC a A1 A2 a1 a2) 24)).alloc (.cells (dscC b B1 B2 b1 b2) 24)).alloc (.cells #[.int .i64 0, .slice none 0 0, .int .i64 0] 27) := ⟨_, rfl⟩
 rw [← hW0] at bR bA bB
 have hb0 : Below w.heap.size w W0 := by rw [hW0]; exact bel_alloc (bel_alloc (bel_alloc (Below.refl _ _) _) _) _
 have hs0 : W0.heap.size = w.heap.size + 1 + 1 + 1 := by rw [hW0]; simp only [World.size_alloc]
 have HCM := Lib.hid (xor_compared a b who A1 A2 B1 B2 A a1 a2 b1 b2 c W0 (h.below hb0) hc hcm)
 obtain ⟨t, n, e, hQ⟩ : ∃ t n e, cmpR xorF a b who = (t, n, e) := ⟨_, _, _, rfl⟩
 rw [hQ] at HCM ⊢
 have BR := Lib.hid bR
 have BA := Lib.hid bA
 have BB := Lib.hid bB
 unfold dscC at BA
 unfold dscC at BB
 have HB0 := Lib.hid hb0
 have HW0 := Lib.hid hW0
 have HS0 := Lib.hid hs0
 unfold dscV at *
 unfold dscC at HW0
 clear h bR bA bB hb0 hW0 hs3 hs0 hQ
 go_enter Tryz.func25, Tryz.ntmps25
 go_upto_region 1 with (fail)
 rw [← HW0.out]
 have ba := BA.out
 have bb := BB.out
 have y0 : W0.cell? ⟨w.heap.size, 0, none⟩ = some (.int .i64 a.o) := Box.cells ba 0; have y1 : W0.cell? ⟨w.heap.size, 1, none⟩ = some (.int .i64 a.g) := Box.cells ba 1; have y2 : W0.cell? ⟨w.heap.size, 2, none⟩ = some (.bool a.pr) := Box.cells ba 2; have y3 : W0.cell? ⟨w.heap.size, 3, none⟩ = some (.bool a.he) := Box.cells ba 3; have y4 : W0.cell? ⟨w.heap.size, 4, none⟩ = some (.slice A1 a.es.length a1) := Box.cells ba 4; have y5 : W0.cell? ⟨w.heap.size, 5, none⟩ = some (.slice A2 a.us.length a2) := Box.cells ba 5
 have z0 : W0.cell? ⟨w.heap.size + 1, 0, none⟩ = some (.int .i64 b.o) := Box.cells bb 0; have z1 : W0.cell? ⟨w.heap.size + 1, 1, none⟩ = some (.int .i64 b.g) := Box.cells bb 1; have z2 : W0.cell? ⟨w.heap.size + 1, 2, none⟩ = some (.bool b.pr) := Box.cells bb 2; have z3 : W0.cell? ⟨w.heap.size + 1, 3, none⟩ = some (.bool b.he) := Box.cells bb 3; have z4 : W0.cell? ⟨w.heap.size + 1, 4, none⟩ = some (.slice B1 b.es.length b1) := Box.cells bb 4; have z5 : W0.cell? ⟨w.heap.size + 1, 5, none⟩ = some (.slice B2 b.us.length b2) := Box.cells bb 5
 have l0 : w.heap.size < W0.heap.size := ba.lt
 have l1 : w.heap.size + 1 < W0.heap.size := bb.lt
 clear ba bb
 go_wp2_with (first | (go_at_call 64; refine HCM.out.mono ?_; rintro e W1 ⟨C1, k1, rfl, ho1, hb1⟩; have br1 := BR.out.below hb1; have HB1 := Lib.hid hb1; have HO1 := Lib.hid ho1; clear y0 y1 y2 y3 y4 y5 z0 z1 z2 z3 z4 z5; unfold tokV) | (refine wpList_store_newG rfl 27 (.tmp 6) (.tmp 19) rfl rfl (w.heap.size + 1 + 1) #[.int .i64 t.u, .slice C1 t.gs.length k1, .int .i64 t.p] rfl rfl 27 _ (br1.old _) (by kernel_rfl) (by kernel_rfl) (by kernel_rfl) ?_; intro W4 g4 br4 keep4))
 have hs := HS0.out
 have hb4 := g4.belowAt (bel_alloc (bel_trans HB0.out HB1.out) _) (show w.heap.size ≤ w.heap.size + 1 + 1 by omega)
 have ho4 := ownsRow_mono (ownsRow_grw (HO1.out.alloc _) g4 (by omega)) (show w.heap.size ≤ W0.heap.size by omega)
 exact bodyPost_ret (results_cell_tmp Tryz.results25 _ W4 (w.heap.size + 1 + 1) 27 _ _ _ rfl rfl br4 Tryz.underlying27 rfl (by kernel_rfl)) rfl ⟨C1, k1, rfl, ho4, hb4⟩
theorem SameTok_any (t u : TokP) (A B : Option Addr) (c k : Nat) (w : World) (hl : t.gs.length ≤ 100000) (hl' : u.gs.length ≤ 100000) (hr : Rd w w.heap.size A (t.gs.map (.int .i64))) (hr' : Rd w w.heap.size B (u.gs.map (.int .i64))) :
 Calls Tryz.prog 29 #[tokV t A c, tokV u B k] w fun e w' => e = .returned (.bool (t.u == u.u && decide (t.gs = u.gs) && t.p == u.p)) ∧ Below w.heap.size w w' := by
 have HI := Lib.hid (fun W (hW : Below w.heap.size w W) => Ints_any A B c k t.gs u.gs W (by unfold maxLen; omega) (by unfold maxLen; omega) (hr.below' hW) (hr'.below' hW))
 obtain ⟨r, hrr⟩ : ∃ r, r = (t.u == u.u && decide (t.gs = u.gs) && t.p == u.p) := ⟨_, rfl⟩
 obtain ⟨x, hx⟩ : ∃ x, x = decide (t.gs = u.gs) := ⟨_, rfl⟩
 rw [← hrr]
 rw [← hx] at HI hrr
 have b0 := (Box.new w (tokC t A c) 27).old (.cells (tokC u B k) 27)
 have b1 := Box.new (w.alloc (.cells (tokC t A c) 27)) (tokC u B k) 27
 rw [World.size_alloc] at b1
 have T0 := Lib.hid (fun W hW => b0.below (w' := W) hW)
 have T1 := Lib.hid (fun W hW => b1.below (w' := W) hW)
 unfold tokV
 unfold tokC at T0 T1
 obtain ⟨tu, tg, tp⟩ := t
 obtain ⟨uu, ug, up⟩ := u
 dsimp only at *
 clear hr hr' hx b0 b1
 by_cases h1 : tu = uu
 · have k1 : (tu == uu) = true := by simpa using h1
   cases x
   · have H := Lib.hid (show r = false by rw [hrr, k1]; rfl)
     clear hrr h1
     go_enter Tryz.func29, Tryz.ntmps29
     go_wp2_with (go_at_call 18; refine (HI.out _ (bel_alloc (bel_alloc (Below.refl _ _) _) _)).mono ?_; rintro e W1 ⟨rfl, hbW1⟩; obtain ⟨hcW1, hfW1⟩ := bcell hbW1)
     go_ret
     exact ⟨by rw [H.out]; rfl, bel_trans (bel_alloc (bel_alloc (Below.refl _ _) _) _) hbW1⟩
   · have H := Lib.hid (show r = (tp == up) by rw [hrr, k1]; rfl)
     clear hrr h1
     go_enter Tryz.func29, Tryz.ntmps29
     go_wp2_with ((go_at_call 18; refine (HI.out _ (bel_alloc (bel_alloc (Below.refl _ _) _) _)).mono ?_; rintro e W1 ⟨rfl, hbW1⟩; obtain ⟨hcW1, hfW1⟩ := bcell hbW1); have q0 := T0.out _ hbW1; have q1 := T1.out _ hbW1; have z2 : W1.cell? ⟨w.heap.size, 2, none⟩ = some (.int .i64 tp) := Box.cells q0 2; have y2 : W1.cell? ⟨w.heap.size + 1, 2, none⟩ = some (.int .i64 up) := Box.cells q1 2; have l0 : w.heap.size < W1.heap.size := q0.lt; have l1 : w.heap.size + 1 < W1.heap.size := q1.lt; clear q0 q1)
     go_ret
     exact ⟨by rw [H.out]; rfl, bel_trans (bel_alloc (bel_alloc (Below.refl _ _) _) _) hbW1⟩
 · have k1 : (tu == uu) = false := by simpa using h1
   have H := Lib.hid (show r = false by rw [hrr, k1]; rfl)
   clear hrr h1
   go_enter Tryz.func29, Tryz.ntmps29
   go_wp2
   go_ret
   exact ⟨by rw [H.out]; rfl, bel_alloc (bel_alloc (Below.refl _ _) _) _⟩
def SecD : DscP := ⟨10, 20, false, true, [⟨1, 0, 2, 11⟩, ⟨0, 0, 3, 21⟩, ⟨0, 0, 1, 1⟩, ⟨0, 8, 32, 1⟩], [⟨2, 0, 2, 1⟩]⟩
def SecO (B : Nat) (v : Value) (X : World) : Prop := ∃ A1 A2, v = dscV SecD A1 A2 4 1 ∧ X.ownsRow B 111 4 (.slice A1 4 4) 4 (acesV SecD.es) ∧ X.ownsRow B 111 4 (.slice A2 1 1) 1 (acesV SecD.us)
set_option maxRecDepth 100000 in
theorem Secured_any (w : World) : Calls Tryz.prog 50 #[] w fun e w' => ∃ v, e = .returned v ∧ SecO w.heap.size v w' ∧ Below w.heap.size w w' := by
 go_enter Tryz.func50, Tryz.ntmps50
 have b0 := Box.new w #[.int .i64 0, .int .i64 0, .bool false, .bool false, .slice none 0 0, .slice none 0 0] 24
 have BR := Lib.hid b0
 clear b0
 go_wp2_with (refine wpList_store_newG rfl 24 (.tmp 0) (.tmp 8) rfl rfl w.heap.size #[.int .i64 10, .int .i64 20, .bool false, .bool true, .slice (some ⟨w.heap.size + 1, 0, none⟩) 4 4, .slice (some ⟨w.heap.size + 1 + 1, 0, none⟩) 1 1] rfl rfl 24 _ ((BR.out.old _).old _) (by kernel_rfl) (by kernel_rfl) (by kernel_rfl) ?_; intro W4 g4 br4 keep4)
 obtain ⟨V0, hV0⟩ : ∃ V0, V0 = w.alloc (.cells #[.int .i64 0, .int .i64 0, .bool false, .bool false, .slice none 0 0, .slice none 0 0] 24) := ⟨_, rfl⟩
 have hv0 : V0.heap.size = w.heap.size + 1 := by rw [hV0, World.size_alloc]
 rw [← hV0] at g4
 have o1 := World.ownsRow_lit (base := w.heap.size + 1) (e := 111) (size := 4) V0 #[.int .i64 1, .int .i64 0, .int .i64 2, .int .i64 11, .int .i64 0, .int .i64 0, .int .i64 3, .int .i64 21, .int .i64 0, .int .i64 0, .int .i64 1, .int .i64 1, .int .i64 0, .int .i64 8, .int .i64 32, .int .i64 1] 4 (by omega) (by unfold maxLen; omega) rfl
 have o2 := World.ownsRow_lit (base := w.heap.size + 1) (e := 111) (size := 4) (V0.alloc (.cells #[.int .i64 1, .int .i64 0, .int .i64 2, .int .i64 11, .int .i64 0, .int .i64 0, .int .i64 3, .int .i64 21, .int .i64 0, .int .i64 0, .int .i64 1, .int .i64 1, .int .i64 0, .int .i64 8, .int .i64 32, .int .i64 1] 111)) #[.int .i64 2, .int .i64 0, .int .i64 2, .int .i64 1] 1 (by rw [World.size_alloc]; omega) (by unfold maxLen; omega) rfl
 have p1 := ownsRow_mono (ownsRow_grw (o1.alloc (.cells #[.int .i64 2, .int .i64 0, .int .i64 2, .int .i64 1] 111)) g4 (Nat.lt_succ_self _)) (Nat.le_succ w.heap.size)
 have p2 := ownsRow_mono (ownsRow_grw o2 g4 (Nat.lt_succ_self _)) (Nat.le_succ w.heap.size)
 rw [hv0] at p1
 rw [World.size_alloc, hv0] at p2
 have hb4 := g4.belowAt (bel_alloc (bel_alloc (show Below w.heap.size w V0 by rw [hV0]; exact bel_alloc (Below.refl _ _) _) _) _) (Nat.le_refl _)
 exact bodyPost_ret (results_cell1 Tryz.results50 _ W4 w.heap.size 24 _ _ rfl br4 Tryz.underlying24 rfl (by kernel_rfl)) rfl ⟨_, rfl, ⟨some ⟨w.heap.size + 1, 0, none⟩, some ⟨w.heap.size + 1 + 1, 0, none⟩, rfl, p1, p2⟩, hb4⟩
end Go.Proofs.YtanicpgmbhfipaaGreatDoor
namespace Go.Proofs.YtanicpgmbhfipaaGreatDoor
set_option linter.unusedVariables false
set_option linter.unusedSimpArgs false
open Go.RowKit Go.Sort
theorem leaves_pure' {P : Program} {R : Value → World → Prop} {X : World} {s : Sem Next} {v : Value} (h : s.run P X = .ok (.value v) X) (hR : R v X) : LeavesR P R X (s.run P X) := by
 rw [h]; exact ⟨Below.refl _ _, hR⟩
def T1 : TokP := ⟨11, [21], 0⟩
def T2 : TokP := ⟨10, [], 0⟩
def SecD' : DscP := ⟨10, 20, false, true, [⟨0, 0, 3, 21⟩, ⟨0, 0, 1, 1⟩, ⟨0, 8, 32, 1⟩], [⟨2, 0, 2, 1⟩]⟩
def secV (A1 A2 : Option Addr) : Value := .agg #[.int .i64 10, .int .i64 20, .bool false, .bool true, .slice A1 4 4, .slice A2 1 1]
theorem sec_dt {t : TokP} {B : Nat} {A1 A2 A : Option Addr} {W : World} (h1 : W.ownsRow B 111 4 (.slice A1 4 4) 4 (acesV SecD.es)) (h2 : W.ownsRow B 111 4 (.slice A2 1 1) 1 (acesV SecD.us)) (hl : t.gs.length ≤ 1000) (hr : Rd W W.heap.size A (t.gs.map (.int .i64))) (hg : GrT W) : DT SecD t A1 A2 A W :=
 ⟨by decide, by decide, hl, Rd.of_own h1, Rd.of_own h2, hr, hg⟩
theorem aw_rights {A1 A2 A : Option Addr} {W : World} (h : DT SecD T1 A1 A2 A W) : Calls Tryz.prog 11 #[secV A1 A2, .agg #[.int .i64 11, .slice A 1 1, .int .i64 0]] W fun e w' => e = .returned (.tuple #[.int .i64 1, .int .i64 0]) ∧ Below W.heap.size W w' := by
 have := RightsFor_any SecD T1 A1 A2 A 4 1 1 W h
 rw [show botE SecD T1 = 0 by decide +kernel, show rgtP SecD T1 = 1 by decide +kernel] at this
 exact this
theorem aw_decided {A1 A2 : Option Addr} {W : World} (h : DT SecD T2 A1 A2 none W) : Calls Tryz.prog 15 #[secV A1 A2, .agg #[.int .i64 10, .slice none 0 0, .int .i64 0]] W (RowRet W [2, -4, -4, -4, -4, -4, -2, -2, -4] 0) := by
 have := DecidedBy_any SecD T2 A1 A2 none 4 1 0 W h
 rw [show botE SecD T2 = 0 by decide +kernel, show decP SecD T2 = [2, -4, -4, -4, -4, -4, -2, -2, -4] by decide +kernel] at this
 exact this
theorem aw_access {A1 A2 A : Option Addr} {W : World} (h : DT SecD T1 A1 A2 A W) : Calls Tryz.prog 14 #[secV A1 A2, .agg #[.int .i64 11, .slice A 1 1, .int .i64 0], .int .i64 3] W fun e w' => e = .returned (.tuple #[.bool false, .int .i64 2, .int .i64 0]) ∧ Below W.heap.size W w' := by
 have := AccessTo_any SecD T1 3 A1 A2 A 4 1 1 W h
 rw [show triE SecD T1 3 = 0 by decide +kernel, show bits .andNot .i64 3 (rgtP SecD T1) = 2 by decide +kernel] at this
 exact this
theorem aw_cmp : cmpR xorF SecD SecD' [11, 21] = (T1, 2, 0) := by kernel_rfl
theorem aw_differs {A1 A2 B1 B2 A : Option Addr} {W : World} (h : DD SecD SecD' [11, 21] A1 A2 B1 B2 A W) : Calls Tryz.prog 25 #[secV A1 A2, .agg #[.int .i64 10, .int .i64 20, .bool false, .bool true, .slice B1 3 3, .slice B2 1 1], .slice A 2 2] W (DifPost W (T1, 2, 0)) := by
 have := DifferenceOf_any SecD SecD' [11, 21] A1 A2 B1 B2 A 4 1 3 1 2 W h (by decide) (by unfold maxLen; decide)
 rw [aw_cmp] at this
 exact this
theorem own_some {X : World} {B : Nat} {e : TypeId} {s n c : Nat} {A : Option Addr} {xs : List Value} (h : X.ownsRow B e s (.slice A n c) n xs) (hn : 0 < n) : ∃ g, A = some ⟨g, 0, none⟩ ∧ g < X.heap.size := by
 rcases h.2 with ⟨_, h0⟩ | ⟨g, cap, cur, h1, _, h3, _⟩
 · omega
 · injection h1 with h1; exact ⟨g, h1, (Array.getElem?_eq_some_iff.1 h3).1⟩
theorem secO_lit {B : Nat} {v : Value} {X : World} (h : SecO B v X) : ∃ g1 g2, v = secV (some ⟨g1, 0, none⟩) (some ⟨g2, 0, none⟩) ∧ X.ownsRow B 111 4 (.slice (some ⟨g1, 0, none⟩) 4 4) 4 (acesV SecD.es) ∧ X.ownsRow B 111 4 (.slice (some ⟨g2, 0, none⟩) 1 1) 1 (acesV SecD.us) := by
 obtain ⟨A1, A2, h1, h2, h3⟩ := h
 obtain ⟨g1, rfl, _⟩ := own_some h2 (by omega)
 obtain ⟨g2, rfl, _⟩ := own_some h3 (by omega)
 exact ⟨g1, g2, h1, h2, h3⟩
theorem aw_ints {X : World} {AD : Option Addr} {cD : Nat} (h : Rd X X.heap.size AD (([2, -4, -4, -4, -4, -4, -2, -2, -4] : List Int).map (.int .i64))) :
 Calls Tryz.prog 18 #[.slice AD 9 cD, .slice (some ⟨X.heap.size, 0, none⟩) 9 9] (X.alloc (.cells #[.int .i64 2, .int .i64 (-4), .int .i64 (-4), .int .i64 (-4), .int .i64 (-4), .int .i64 (-4), .int .i64 (-2), .int .i64 (-2), .int .i64 (-4)] 3)) fun e w' => e = .returned (.bool true) ∧ Below (X.alloc (.cells #[.int .i64 2, .int .i64 (-4), .int .i64 (-4), .int .i64 (-4), .int .i64 (-4), .int .i64 (-4), .int .i64 (-2), .int .i64 (-2), .int .i64 (-4)] 3)).heap.size (X.alloc (.cells #[.int .i64 2, .int .i64 (-4), .int .i64 (-4), .int .i64 (-4), .int .i64 (-4), .int .i64 (-4), .int .i64 (-2), .int .i64 (-2), .int .i64 (-4)] 3)) w' :=
 Ints_any AD (some ⟨X.heap.size, 0, none⟩) cD 9 [2, -4, -4, -4, -4, -4, -2, -2, -4] [2, -4, -4, -4, -4, -4, -2, -2, -4] _ (by unfold maxLen; decide) (by unfold maxLen; decide) (h.below' (bel_alloc (Below.refl _ _) _)) (Rd.of_own (World.ownsRow_lit (base := 0) (e := 3) (size := 1) X #[.int .i64 2, .int .i64 (-4), .int .i64 (-4), .int .i64 (-4), .int .i64 (-4), .int .i64 (-4), .int .i64 (-2), .int .i64 (-2), .int .i64 (-4)] 9 (Nat.zero_le _) (by unfold maxLen; omega) rfl))
theorem aw_same {X : World} {A : Option Addr} {c : Nat} (h : Rd X X.heap.size A [.int .i64 21]) :
 Calls Tryz.prog 29 #[.agg #[.int .i64 11, .slice A 1 c, .int .i64 0], .agg #[.int .i64 11, .slice (some ⟨X.heap.size, 0, none⟩) 1 1, .int .i64 0]] (X.alloc (.cells #[.int .i64 21] 3)) fun e w' => e = .returned (.bool true) ∧ Below (X.alloc (.cells #[.int .i64 21] 3)).heap.size (X.alloc (.cells #[.int .i64 21] 3)) w' :=
 SameTok_any T1 T1 A (some ⟨X.heap.size, 0, none⟩) c 1 _ (by decide) (by decide) (h.below' (bel_alloc (Below.refl _ _) _)) (Rd.of_own (World.ownsRow_lit (base := 0) (e := 3) (size := 1) X #[.int .i64 21] 1 (Nat.zero_le _) (by unfold maxLen; omega) rfl))
def AwDif (B : Nat) (_ : Act) (v : Value) (X : World) : Prop := ∃ A c, v = .tuple #[.agg #[.int .i64 11, .slice A 1 c, .int .i64 0], .int .i64 0] ∧ X.ownsRow B 3 1 (.slice A 1 c) 1 [.int .i64 21]
def AwTok (B : Nat) (_ : Act) (v : Value) (X : World) : Prop := ∃ A c, v = .agg #[.int .i64 11, .slice A 1 c, .int .i64 0] ∧ X.ownsRow B 3 1 (.slice A 1 c) 1 [.int .i64 21]
def AwSec (B : Nat) (_ : Act) (v : Value) (X : World) : Prop := SecO B v X
def AwRow (B : Nat) (_ : Act) (v : Value) (X : World) : Prop := ∃ b, v = .slice (some ⟨b, 0, none⟩) 2 2 ∧ X.ownsRow B 3 1 (.slice (some ⟨b, 0, none⟩) 2 2) 2 [.int .i64 11, .int .i64 21]
def AwBox (p q : Nat) (T : TypeId) (g : Act) (_ : Value) (X : World) : Prop := ∃ b cs, g.eval (.tmp p) = .pointer (some ⟨b, 0, none⟩) ∧ g.eval (.tmp q) = .agg cs ∧ Box X b cs T
theorem AwDif.stable {B : Nat} (g : Act) (v : Value) (X X' : World) (h : AwDif B g v X) (hb : Below X.heap.size X X') : AwDif B g v X' := by
 first
  | (obtain ⟨A, c, h1, h2⟩ := h; exact ⟨A, c, h1, ownsRow_below h2 hb⟩)
  | (obtain ⟨b, h1, h2⟩ := h; exact ⟨b, h1, ownsRow_below h2 hb⟩)
theorem AwDif.grw {B N : Nat} (g : Act) (v : Value) (X X' : World) (h : AwDif B g v X) (hX : Grw (BoxesO N 27) X X') : AwDif B g v X' := by
 first
  | (obtain ⟨A, c, h1, h2⟩ := h; exact ⟨A, c, h1, ownsRow_boxes h2 hX (by decide)⟩)
  | (obtain ⟨b, h1, h2⟩ := h; exact ⟨b, h1, ownsRow_boxes h2 hX (by decide)⟩)
theorem AwTok.stable {B : Nat} (g : Act) (v : Value) (X X' : World) (h : AwTok B g v X) (hb : Below X.heap.size X X') : AwTok B g v X' := by
 first
  | (obtain ⟨A, c, h1, h2⟩ := h; exact ⟨A, c, h1, ownsRow_below h2 hb⟩)
  | (obtain ⟨b, h1, h2⟩ := h; exact ⟨b, h1, ownsRow_below h2 hb⟩)
theorem AwTok.grw {B N : Nat} (g : Act) (v : Value) (X X' : World) (h : AwTok B g v X) (hX : Grw (BoxesO N 27) X X') : AwTok B g v X' := by
 first
  | (obtain ⟨A, c, h1, h2⟩ := h; exact ⟨A, c, h1, ownsRow_boxes h2 hX (by decide)⟩)
  | (obtain ⟨b, h1, h2⟩ := h; exact ⟨b, h1, ownsRow_boxes h2 hX (by decide)⟩)
theorem AwRow.stable {B : Nat} (g : Act) (v : Value) (X X' : World) (h : AwRow B g v X) (hb : Below X.heap.size X X') : AwRow B g v X' := by
 first
  | (obtain ⟨A, c, h1, h2⟩ := h; exact ⟨A, c, h1, ownsRow_below h2 hb⟩)
  | (obtain ⟨b, h1, h2⟩ := h; exact ⟨b, h1, ownsRow_below h2 hb⟩)
theorem AwRow.grw {B N : Nat} (g : Act) (v : Value) (X X' : World) (h : AwRow B g v X) (hX : Grw (BoxesO N 27) X X') : AwRow B g v X' := by
 first
  | (obtain ⟨A, c, h1, h2⟩ := h; exact ⟨A, c, h1, ownsRow_boxes h2 hX (by decide)⟩)
  | (obtain ⟨b, h1, h2⟩ := h; exact ⟨b, h1, ownsRow_boxes h2 hX (by decide)⟩)
theorem AwSec.stable {B : Nat} (g : Act) (v : Value) (X X' : World) (h : AwSec B g v X) (hb : Below X.heap.size X X') : AwSec B g v X' := by
 obtain ⟨A1, A2, h1, h2, h3⟩ := h
 exact ⟨A1, A2, h1, ownsRow_below h2 hb, ownsRow_below h3 hb⟩
theorem AwSec.grw {B N : Nat} (g : Act) (v : Value) (X X' : World) (h : AwSec B g v X) (hX : Grw (BoxesO N 27) X X') : AwSec B g v X' := by
 obtain ⟨A1, A2, h1, h2, h3⟩ := h
 exact ⟨A1, A2, h1, ownsRow_boxes h2 hX (by decide), ownsRow_boxes h3 hX (by decide)⟩
theorem AwBox.stable {p q : Nat} {T : TypeId} (g : Act) (v : Value) (X X' : World) (h : AwBox p q T g v X) (hb : Below X.heap.size X X') : AwBox p q T g v X' := by
 obtain ⟨b, cs, h1, h2, h3⟩ := h; exact ⟨b, cs, h1, h2, h3.below hb⟩
set_option maxRecDepth 100000 in
set_option maxHeartbeats 4000000 in
theorem awake17_any (w : World) (hg : GrT w) : Calls Tryz.prog 9 #[] w fun e w' => e = .returned (.bool true) ∧ Below w.heap.size w w' := by
 have HGR := Lib.hid (fun W (hW : Below w.heap.size w W) => hg.below hW)
 have HSEC := Lib.hid (fun W => Secured_any W)
 have hb := Below.refl w.heap.size w
 clear hg
 go_enter Tryz.func9, Tryz.ntmps9
 go_wp2_with (first | (go_at_call 50; refine (HSEC.out _).mono ?_; rintro e V ⟨v, rfl, hso, hV⟩; obtain ⟨B1, B2, rfl, o1, o2⟩ := secO_lit hso; have hb := bel_trans hb hV; unfold secV) | (go_at_call 11; refine (aw_rights (A1 := some ⟨B1, 0, none⟩) (A2 := some ⟨B2, 0, none⟩) (A := some ⟨V.heap.size, 0, none⟩) (W := V.alloc (.cells #[.int .i64 21] 3)) (sec_dt (o1.alloc _) (o2.alloc _) (by decide) (Rd.of_own (World.ownsRow_lit (base := 0) (e := 3) (size := 1) V #[.int .i64 21] 1 (Nat.zero_le _) (by unfold maxLen; omega) rfl)) (HGR.out _ (bel_alloc hb _)))).mono ?_; rintro e R ⟨rfl, hR⟩; have hb := bel_trans (bel_alloc hb _) hR) | (go_at_call 15; refine (aw_decided (A1 := some ⟨B1, 0, none⟩) (A2 := some ⟨B2, 0, none⟩) (W := V) (sec_dt o1 o2 (by decide) (Rd.nil _ _ _) (HGR.out _ hb))).mono ?_; rintro e D ⟨AD, cD, rfl, oD, hD⟩; have hb := bel_trans hb hD) | (go_at_call 14; refine (aw_access (A1 := some ⟨B1, 0, none⟩) (A2 := some ⟨B2, 0, none⟩) (A := some ⟨V.heap.size, 0, none⟩) (W := V.alloc (.cells #[.int .i64 21] 3)) (sec_dt (o1.alloc _) (o2.alloc _) (by decide) (Rd.of_own (World.ownsRow_lit (base := 0) (e := 3) (size := 1) V #[.int .i64 21] 1 (Nat.zero_le _) (by unfold maxLen; omega) rfl)) (HGR.out _ (bel_alloc hb _)))).mono ?_; rintro e R ⟨rfl, hR⟩; have oD := ownsRow_below oD (bel_trans hV (bel_trans (bel_alloc (Below.refl _ _) _) hR)); have hb := bel_trans (bel_alloc hb _) hR))
 have bx := Box.new V #[.int .i64 10, .int .i64 20, .bool false, .bool true, .slice (some ⟨B1, 4, none⟩) 3 3, .slice (some ⟨B2, 0, none⟩) 1 1] 24
 have hbw := bel_alloc hb (.cells #[.int .i64 10, .int .i64 20, .bool false, .bool true, .slice (some ⟨B1, 4, none⟩) 3 3, .slice (some ⟨B2, 0, none⟩) 1 1] 24)
 have oDw := (ownsRow_below oD hV).alloc (.cells #[.int .i64 10, .int .i64 20, .bool false, .bool true, .slice (some ⟨B1, 4, none⟩) 3 3, .slice (some ⟨B2, 0, none⟩) 1 1] 24)
 have p1 := o1.alloc (.cells #[.int .i64 10, .int .i64 20, .bool false, .bool true, .slice (some ⟨B1, 4, none⟩) 3 3, .slice (some ⟨B2, 0, none⟩) 1 1] 24)
 have p2 := o2.alloc (.cells #[.int .i64 10, .int .i64 20, .bool false, .bool true, .slice (some ⟨B1, 4, none⟩) 3 3, .slice (some ⟨B2, 0, none⟩) 1 1] 24)
 obtain ⟨Wc, hWc⟩ : ∃ Wc, Wc = V.alloc (.cells #[.int .i64 10, .int .i64 20, .bool false, .bool true, .slice (some ⟨B1, 4, none⟩) 3 3, .slice (some ⟨B2, 0, none⟩) 1 1] 24) := ⟨_, rfl⟩
 rw [← hWc] at bx hbw oDw p1 p2
 have HWC := Lib.hid hWc
 have BX := Lib.hid bx
 have HBW := Lib.hid hbw
 have HOD := Lib.hid oDw
 have HP1 := Lib.hid p1
 have HP2 := Lib.hid p2
 have y0 : Wc.cell? ⟨V.heap.size, 0, none⟩ = some (.int .i64 10) := Box.cells bx 0
 have y1 : Wc.cell? ⟨V.heap.size, 1, none⟩ = some (.int .i64 20) := Box.cells bx 1
 have y2 : Wc.cell? ⟨V.heap.size, 2, none⟩ = some (.bool false) := Box.cells bx 2
 have y3 : Wc.cell? ⟨V.heap.size, 3, none⟩ = some (.bool true) := Box.cells bx 3
 have y4 : Wc.cell? ⟨V.heap.size, 4, none⟩ = some (.slice (some ⟨B1, 4, none⟩) 3 3) := Box.cells bx 4
 have y5 : Wc.cell? ⟨V.heap.size, 5, none⟩ = some (.slice (some ⟨B2, 0, none⟩) 1 1) := Box.cells bx 5
 have l0 : V.heap.size < Wc.heap.size := bx.lt
 obtain ⟨b8, hb8⟩ : ∃ b8, b8 = V.heap.size := ⟨_, rfl⟩
 rw [← hb8] at y0 y1 y2 y3 y4 y5 l0
 clear hso o1 o2 hV hR bx hbw oDw p1 p2 oD hWc
 go_wp2
 rw [← HWC.out, ← hb8]
 have HB8 := Lib.hid hb8
 clear hb8
 (refine wp_region_flowS (BoxesO Wc.heap.size 27) [true, false, true, true, true, true, true, true, true] [⟨0, [], AwSec Wc.heap.size, false⟩, ⟨2, [], AwRow Wc.heap.size, false⟩, ⟨3, [0, 2], AwDif Wc.heap.size, false⟩, ⟨4, [3], AwDif Wc.heap.size, false⟩, ⟨5, [4], AwTok Wc.heap.size, false⟩, ⟨6, [4], IsV (.int .i64 0), false⟩, ⟨7, [], fun _ => AtBox Wc.heap.size 27 3, false⟩, ⟨8, [5, 7], AwBox 9 42 27, true⟩] (by kernel_rfl) (by kernel_rfl) (by kernel_rfl) (by simp) ?_; simp only [pick, List.length_cons, List.length_nil, List.drop_succ_cons, List.drop_zero, Nat.zero_add, Nat.reduceAdd]; apply Exists.intro; refine ⟨fun X hX => ?_, ?_⟩; (focus (have hgX := regcellB hX; have hsX := hX.size; (try simp only [World.size_alloc] at hsX); (repeat (go_big_quiet_step ((first | fail)))); exact wpQuiet_nil rfl)); simp only [wpNO, told, toldAll, List.contains_cons, List.contains_nil, List.mem_cons, List.not_mem_nil, forall_eq_or_imp, false_implies, implies_true, and_true, Nat.reduceBEq, BEq.rfl, beq_self_eq_true, Bool.or_false, Bool.false_or, Bool.true_or, Bool.or_true, Bool.false_eq_true, if_true, if_false, true_implies, dstAt, List.getElem?_toArray, List.getElem?_cons_succ, List.getElem?_cons_zero, Option.some.injEq, forall_eq', Option.bind_some, Act.put, List.setIfInBounds_toArray, List.set_cons_succ, List.set_cons_zero])
 refine ⟨⟨AwSec.stable _, AwSec.grw _, fun _ _ _ h => h⟩, fun X hX => ?_, fun v0 => ⟨⟨AwRow.stable _, AwRow.grw _, fun _ _ _ h => h⟩, fun X hX => ?_, fun v2 => ⟨⟨AwDif.stable _, AwDif.grw _, fun _ _ _ _ h => h⟩, fun X hX hf => ?_, fun v3 => ⟨⟨AwDif.stable _, AwDif.grw _, fun _ _ _ _ h => h⟩, fun X hX hf => ?_, fun v4 => ⟨⟨AwTok.stable _, AwTok.grw _, fun _ _ _ _ h => h⟩, fun X hX hf => ?_, fun v5 => ⟨⟨fun v X X' h _ => h, fun v X X' h _ => h, fun _ _ _ _ h => h⟩, fun X hX hf => ?_, fun v6 => ⟨⟨AtBox.stable, AtBox.grw, fun _ _ _ h => h⟩, fun X hX => ?_, fun v7 => ⟨⟨AwBox.stable _, fun h => (by cases h), fun g' v X hg h => ?_⟩, fun X hX hcalm hf => ?_, fun v8 X hX hf => ?_⟩⟩⟩⟩⟩⟩⟩⟩
 · refine .inl (leaves_call' (f := 50) (args := #[]) (by kernel_rfl) ((HSEC.out X).mono ?_))
   rintro e W1 ⟨v, rfl, ⟨A1, A2, h1, h2, h3⟩, hV⟩
   exact ⟨v, rfl, hV, A1, A2, h1, ownsRow_mono h2 hX.size, ownsRow_mono h3 hX.size⟩
 · exact .inl (leaves_alloc' (v := .slice (some ⟨X.heap.size, 0, none⟩) 2 2) (obj := .cells #[.int .i64 11, .int .i64 21] 3) (by kernel_rfl) ⟨X.heap.size, rfl, World.ownsRow_lit (base := Wc.heap.size) (e := 3) (size := 1) X #[.int .i64 11, .int .i64 21] 2 hX.size (by unfold maxLen; omega) rfl⟩)
 · obtain ⟨⟨bw, rfl, how⟩, hs0⟩ := hf
   obtain ⟨g1, g2, rfl, q1, q2⟩ := secO_lit hs0
   have hbx := BoxesO.below hX HBW.out (by have := HBW.out.size; omega)
   have r1 := ownsRow_boxes HP1.out hX (by decide)
   have r2 := ownsRow_boxes HP2.out hX (by decide)
   have rd1 : Rd X X.heap.size (some ⟨B1, 4, none⟩) (acesV SecD'.es) := fun j u hj => by
    obtain ⟨b, o, e, hb, hc⟩ := Rd.of_own r1 (4 + j) u (by rw [← List.getElem?_drop]; exact hj)
    injection e with e
    injection e with e1 e2
    subst e1 e2
    exact ⟨B1, 4, rfl, hb, by rw [← Nat.zero_add (4 + j)]; exact hc⟩
   refine .inl (leaves_call' (f := 25) (args := #[secV (some ⟨g1, 0, none⟩) (some ⟨g2, 0, none⟩), .agg #[.int .i64 10, .int .i64 20, .bool false, .bool true, .slice (some ⟨B1, 4, none⟩) 3 3, .slice (some ⟨B2, 0, none⟩) 1 1], .slice (some ⟨bw, 0, none⟩) 2 2]) (by kernel_rfl) ((aw_differs ⟨by decide, by decide, by decide, by decide, by decide, Rd.of_own q1, Rd.of_own q2, rd1, Rd.of_own r2, Rd.of_own how, HGR.out _ hbx⟩).mono ?_))
   rintro e W1 ⟨A, c, rfl, ho, hb⟩
   exact ⟨_, rfl, hb, A, c, rfl, ownsRow_mono ho hX.size⟩
 · obtain ⟨A, c, rfl, ho⟩ := hf
   exact .inl (leaves_pure' (by kernel_rfl) ⟨A, c, rfl, ho⟩)
 · obtain ⟨A, c, rfl, ho⟩ := hf
   exact .inl (leaves_pure' (by kernel_rfl) ⟨A, c, rfl, ho⟩)
 · obtain ⟨A, c, rfl, ho⟩ := hf
   exact .inl (leaves_pure' (v := .int .i64 0) (by kernel_rfl) rfl)
 · exact .inl (leaves_alloc' (v := .pointer (some ⟨X.heap.size, 0, none⟩)) (obj := .cells #[.int .i64 0, .slice none 0 0, .int .i64 0] 27) (by kernel_rfl) ⟨X.heap.size, _, rfl, hX.size, rfl, heap_alloc_new _ _⟩)
 · obtain ⟨b', cs, h1, h2, h3⟩ := h
   replace h1 : v7 = _ := h1
   replace h2 : v5 = _ := h2
   exact ⟨b', cs, by simp [Act.eval, hg.2, h1], by simp [Act.eval, hg.1, h2], h3⟩
 · obtain ⟨⟨bx, cs0, rfl, hbx, hcs, hbox⟩, A, c, rfl, ho⟩ := hf
   exact leaves_storeB Wc.heap.size 27 (.tmp 9) (.tmp 42) rfl bx #[.int .i64 11, .slice A 1 c, .int .i64 0] rfl rfl 27 cs0 hbox hbx (by kernel_rfl) hcs (by kernel_rfl) (fun X' h => ⟨bx, _, rfl, rfl, h⟩)
 · obtain ⟨⟨bx, cs, e1, e2, hbox⟩, _, h6, ⟨A5, c5, rfl, o5⟩, _⟩ := hf
   replace e1 : v7 = .pointer (some ⟨bx, 0, none⟩) := e1
   replace e2 : Value.agg #[.int .i64 11, .slice A5 1 c5, .int .i64 0] = .agg cs := e2
   replace h6 : v6 = .int .i64 0 := h6
   injection e2 with e2
   subst e1 e2 h6
   have hbx := BoxesO.below hX HBW.out (by have := HBW.out.size; omega)
   have hod := ownsRow_boxes HOD.out hX (by decide)
   have l0 := hbox.lt
   have HBX := Lib.hid hbx
   have HO := Lib.hid hod
   have HBOX := Lib.hid hbox
   have HO5 := Lib.hid o5
   clear y0 y1 y2 y3 y4 y5 hX hbx hod hbox o5
   go_wp2_with (first | (go_at_call 18; refine (aw_ints (X := X) (AD := AD) (cD := cD) (Rd.of_own HO.out)).mono ?_; rintro e I1 ⟨rfl, hI⟩; have bI := HBOX.out.below (bel_trans (bel_alloc (Below.refl _ X) _) hI); have t0 : I1.cell? ⟨bx, 0, none⟩ = some (.int .i64 11) := Box.cells bI 0; have t1 : I1.cell? ⟨bx, 1, none⟩ = some (.slice A5 1 c5) := Box.cells bI 1; have t2 : I1.cell? ⟨bx, 2, none⟩ = some (.int .i64 0) := Box.cells bI 2; have l1 : bx < I1.heap.size := bI.lt; have HI := Lib.hid hI; clear hI bI) | (go_at_call 29; refine (aw_same (X := I1) (A := A5) (c := c5) (Rd.of_own (ownsRow_below HO5.out (bel_trans (bel_alloc (Below.refl _ X) _) HI.out)))).mono ?_; rintro e I2 ⟨rfl, hI2⟩))
   go_ret
   exact ⟨rfl, bel_trans (bel_alloc (bel_trans (bel_alloc HBX.out _) HI.out) _) hI2⟩
end Go.Proofs.YtanicpgmbhfipaaGreatDoor
namespace Go.Proofs.YtanicpgmbhfipaaGreatDoor
set_option linter.unusedVariables false
set_option linter.unusedSimpArgs false
open Go.RowKit Go.Sort
def DscO (d : DscP) (v : Value) (X : World) : Prop := ∃ B1 B2 k1 k2, v = dscV d B1 B2 k1 k2 ∧ Rd X X.heap.size B1 (acesV d.es) ∧ Rd X X.heap.size B2 (acesV d.us)
def TokO (t : TokP) (v : Value) (X : World) : Prop := ∃ B k, v = tokV t B k ∧ Rd X X.heap.size B (t.gs.map (.int .i64))
def IntsO (l : List Int) (v : Value) (X : World) : Prop := ∃ B k, v = .slice B l.length k ∧ Rd X X.heap.size B (l.map (.int .i64))
theorem DscO.stable {d : DscP} (v : Value) (X X' : World) (h : DscO d v X) (hb : Below X.heap.size X X') : DscO d v X' := by
 obtain ⟨B1, B2, k1, k2, h1, h2, h3⟩ := h; exact ⟨B1, B2, k1, k2, h1, h2.below' hb, h3.below' hb⟩
theorem TokO.stable {t : TokP} (v : Value) (X X' : World) (h : TokO t v X) (hb : Below X.heap.size X X') : TokO t v X' := by
 obtain ⟨B, k, h1, h2⟩ := h; exact ⟨B, k, h1, h2.below' hb⟩
theorem IntsO.stable {l : List Int} (v : Value) (X X' : World) (h : IntsO l v X) (hb : Below X.heap.size X X') : IntsO l v X' := by
 obtain ⟨B, k, h1, h2⟩ := h; exact ⟨B, k, h1, h2.below' hb⟩
def EqV (u v : Value) (_ : World) : Prop := v = u
theorem EqV.stable {u : Value} (v : Value) (X X' : World) (h : EqV u v X) (_ : Below X.heap.size X X') : EqV u v X' := h
def RowT (B : Nat) (L : List Int) (r : Int) (v : Value) (X : World) : Prop := ∃ A c, v = .tuple #[.slice A L.length c, .int .i64 r] ∧ X.ownsRow B 3 1 (.slice A L.length c) L.length (L.map (.int .i64))
def RowS (B : Nat) (L : List Int) (v : Value) (X : World) : Prop := ∃ A c, v = .slice A L.length c ∧ X.ownsRow B 3 1 (.slice A L.length c) L.length (L.map (.int .i64))
theorem RowT.stable {B : Nat} {L : List Int} {r : Int} (v : Value) (X X' : World) (h : RowT B L r v X) (hb : Below X.heap.size X X') : RowT B L r v X' := by
 obtain ⟨A, c, h1, h2⟩ := h; exact ⟨A, c, h1, ownsRow_below h2 hb⟩
theorem RowS.stable {B : Nat} {L : List Int} (v : Value) (X X' : World) (h : RowS B L v X) (hb : Below X.heap.size X X') : RowS B L v X' := by
 obtain ⟨A, c, h1, h2⟩ := h; exact ⟨A, c, h1, ownsRow_below h2 hb⟩
end Go.Proofs.YtanicpgmbhfipaaGreatDoor
namespace Go.Proofs.YtanicpgmbhfipaaGreatDoor
set_option linter.unusedVariables false
set_option linter.unusedSimpArgs false
open Go.RowKit Go.Sort
theorem bit_add_hi (x : Int) (i n : Nat) (h : i < n) : bitI (x + 2 ^ n) i = bitI x i := by
 unfold bitI
 obtain ⟨k, rfl⟩ : ∃ k, n = i + 1 + k := ⟨n - (i + 1), by omega⟩
 have e : x + (2 : Int) ^ (i + 1 + k) = x + 2 ^ i * (2 * 2 ^ k) := by rw [Int.pow_add, Int.pow_succ, Int.mul_assoc]
 rw [e, Int.add_mul_ediv_left _ _ (by have := Int.pow_pos (n := 2) (m := i) (by decide); omega)]
 have : (x / 2 ^ i + 2 * 2 ^ k) % 2 = x / 2 ^ i % 2 := by omega
 rw [this]
theorem rgt_bit (d : DscP) (t : TokP) (i : Nat) : ∀ n, i < n → bitI (rgtN d t n) i = grtB d t i
 | 0, h => by omega
 | n + 1, h => by
  obtain ⟨b1, b2⟩ := rgtN_bd d t n
  have hp : (0 : Int) < 2 ^ n := Int.pow_pos (by decide)
  by_cases hi : i < n
  · have ih := rgt_bit d t i n hi
    unfold rgtN
    split
    · rw [bit_add_hi _ _ _ hi, ih]
    · rw [Int.add_zero, ih]
  · obtain rfl : i = n := by omega
    unfold rgtN bitI
    cases h : grtB d t i
    · rw [if_neg (by decide), Int.add_zero, Int.ediv_eq_zero_of_lt b1 b2]; rfl
    · rw [if_pos rfl]
      have : (rgtN d t i + 2 ^ i) / 2 ^ i = 1 := by
       rw [show rgtN d t i + (2 : Int) ^ i = rgtN d t i + 2 ^ i * 1 by rw [Int.mul_one], Int.add_mul_ediv_left _ _ (by omega), Int.ediv_eq_zero_of_lt b1 b2]; rfl
      rw [this]; rfl
theorem rgt_and (d : DscP) (t : TokP) (i : Nat) (hi : i < 9) : (bits .and .i64 (rgtP d t) ((2 : Int) ^ i) != 0) = grtB d t i := by
 obtain ⟨b1, b2⟩ := rgtN_bd d t 9
 rw [and_bit (rgtP d t) i b1 (by unfold rgtP; omega) (by omega)]
 exact rgt_bit d t i 9 hi
def mayE (a b : DscP) (t : TokP) : Int := firstE [dscE a, dscE b, tokE t]
end Go.Proofs.YtanicpgmbhfipaaGreatDoor
namespace Go.Proofs.YtanicpgmbhfipaaGreatDoor
set_option linter.unusedVariables false
set_option linter.unusedSimpArgs false
open Go.RowKit Go.Sort
def rankA (a : AceP) : Int := (if a.k = 1 then 0 else 1) + (if bitI a.f 4 = true then 2 else 0)
end Go.Proofs.YtanicpgmbhfipaaGreatDoor
