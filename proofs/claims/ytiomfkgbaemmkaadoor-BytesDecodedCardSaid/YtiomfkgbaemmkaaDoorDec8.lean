/-
  Chapter 1: the reference's decoding of all fields.
-/
import Derived.Test.YtiomfkgbaemmkaaDoorDec7
namespace Go.Proofs.YtiomfkgbaemmkaaDoor
set_option linter.unusedVariables false
set_option linter.unusedSimpArgs false
open Go.RowKit Go.Sort

theorem decodeField_any (k z : Int) (s : ByteArray) (w : World) (hz : fldE k z = 0) (hs : s.size ≤ 200000) :
    Calls Tryd.prog 36 #[.agg #[.int .i64 k, .int .i64 z], .string s] w (DecPost (decF k z (bl s)) w) := by
  obtain ⟨h0, h4, _, _⟩ := fldE_zero hz
  have : k = 0 ∨ k = 1 ∨ k = 2 ∨ k = 3 ∨ k = 4 := by omega
  rcases this with rfl | rfl | rfl | rfl | rfl
  · by_cases h : (s.size : Int) < z
    · exact decodeField_short0 z s w hz hs h
    · exact decodeField_num z s w hz hs (by omega)
  · by_cases h : (s.size : Int) < z
    · exact decodeField_short1 z s w hz hs h
    · exact decodeField_fixed z s w hz hs (by omega)
  · by_cases h : s.size = 0
    · exact decodeField_empty2 z s w hz h
    · have h' : 0 < s.size := by omega
      by_cases h2 : (s.size : Int) < 1 + s[0].toNat
      · exact decodeField_end2 z s w hz hs h' h2
      · by_cases h3 : z < s[0].toNat
        · exact decodeField_large2 z s w hz hs h' (by omega) h3
        · exact decodeField_text z s w hz hs h' (by omega) (by omega)
  · by_cases h : s.size = 0
    · exact decodeField_empty3 z s w hz h
    · have h' : 0 < s.size := by omega
      by_cases h2 : (s.size : Int) < 1 + 2 * s[0].toNat
      · exact decodeField_end3 z s w hz hs h' h2
      · by_cases h3 : z < s[0].toNat
        · exact decodeField_large3 z s w hz hs h' (by omega) h3
        · exact decodeField_list z s w hz hs h' (by omega) (by omega)
  · by_cases h : (s.size : Int) < z
    · exact decodeField_short4 z s w hz hs h
    · exact decodeField_zero z s w hz hs (by omega)

/-- what a decoded field leaves -/
def R39 (B : Nat) (D : DV × Nat × Int) (_ : Act) (v : Value) (X : World) : Prop :=
  ∃ A c, v = .tuple #[.agg #[.int .i64 D.1.n, .string D.1.s, .slice A D.1.ns.length c], .int .i64 D.2.1, .int .i64 D.2.2] ∧ X.ownsRow B 3 1 (.slice A D.1.ns.length c) D.1.ns.length (D.1.ns.map (.int .i64))
def R40 (B : Nat) (D : DV × Nat × Int) (_ : Act) (v : Value) (X : World) : Prop :=
  ∃ A c, v = .agg #[.int .i64 D.1.n, .string D.1.s, .slice A D.1.ns.length c] ∧ X.ownsRow B 3 1 (.slice A D.1.ns.length c) D.1.ns.length (D.1.ns.map (.int .i64))
/-- the box of slot p holds the struct of slot q -/
def R13 (p q : Nat) (T : TypeId) (g : Act) (_ : Value) (X : World) : Prop := ∃ b cs, g.eval (.tmp p) = .pointer (some ⟨b, 0, none⟩) ∧ g.eval (.tmp q) = .agg cs ∧ Box X b cs T
theorem DecPost.leaves {D : DV × Nat × Int} {w w' : World} {e : Ending} (h : DecPost D w e w') : ∃ v, e = .returned v ∧ Below w.heap.size w w' ∧ ∀ B g, B ≤ w.heap.size → R39 B D g v w' := by
  obtain ⟨⟨n, s, A, c, ns⟩, h1, h2, h3, h4⟩ := h
  have e1 : D.1 = ⟨n, s, ns⟩ := h2.symm
  refine ⟨_, h1, h4, fun B g hB => ⟨A, c, ?_, ?_⟩⟩
  · rw [e1]
  · rw [e1]; exact ownsRow_mono h3 hB

def decP (l : List Fld) (s : ByteArray) : List DV × Nat × Int := if (layP l).2 ≠ 0 then ([], 0, (layP l).2) else if strE s ≠ 0 then ([], 0, strE s) else decG (bl s) l [] 0

/-- the values of a string in memory of their own, how many bytes, an error -/
def DecAll (R : List DV × Nat × Int) (w : World) (e : Ending) (w' : World) : Prop :=
  ∃ A c vs, e = .returned (.tuple #[.slice A vs.length c, .int .i64 R.2.1, .int .i64 R.2.2]) ∧ vs.map dvOf = R.1 ∧ Rd w' w'.heap.size A (vcsV vs) ∧ (∀ x ∈ vs, VOk w' w'.heap.size x) ∧ Below w.heap.size w w'
theorem DecAll.none {w w' : World} {er : Int} {R : List DV × Nat × Int} (hb : Below w.heap.size w w') (h : R = ([], 0, er)) : DecAll R w (.returned (.tuple #[.slice none 0 0, .int .i64 0, .int .i64 er])) w' := by
  subst h
  exact ⟨Option.none, 0, [], rfl, rfl, Rd.nil _ _ _, fun x hx => absurd hx (List.not_mem_nil), hb⟩
theorem decG_bd (L : List UInt8) : ∀ (l : List Fld) (acc : List DV) (a : Nat), (∀ f ∈ l, fldE f.1 f.2 = 0) → a ≤ L.length → (decG L l acc a).2.1 ≤ L.length
  | [], acc, a, _, ha => ha
  | f :: l, acc, a, hf, ha => by
    unfold decG
    by_cases h0 : (decF f.1 f.2 (L.drop a)).2.2 = 0
    · rw [if_neg (by simpa using h0)]
      have hlen := decF_len (fld_bd (hf f (by simp))).1 h0
      rw [List.length_drop] at hlen
      exact decG_bd L l _ _ (fun g hg => hf g (by simp [hg])) (by omega)
    · rw [if_pos (by simpa using h0)]; exact Nat.zero_le _

theorem decF_sz (k z : Int) (L : List UInt8) : (decF k z L).1.s.size ≤ L.length ∧ (decF k z L).1.ns.length ≤ 255 := by
  have h0 : (dv0.s.size ≤ L.length ∧ dv0.ns.length ≤ 255) := ⟨Nat.zero_le _, Nat.zero_le _⟩
  have hc := (L.getD 0 0).toNat_lt
  unfold decF
  by_cases h1 : k = 2 ∨ k = 3
  · rw [if_pos h1]
    by_cases h2 : L.length = 0
    · rw [if_pos h2]; exact h0
    · rw [if_neg h2]
      by_cases h3 : L.length < 1 + (if k = 3 then 2 else 1) * (L.getD 0 0).toNat
      · rw [if_pos h3]; exact h0
      · rw [if_neg h3]
        by_cases h4 : z < (L.getD 0 0).toNat
        · rw [if_pos h4]; exact h0
        · rw [if_neg h4]
          by_cases h5 : k = 2
          · rw [if_pos h5]
            refine ⟨?_, Nat.zero_le _⟩
            show (bs ((L.drop 1).take (L.getD 0 0).toNat)).size ≤ _
            rw [bs_size, List.length_take, List.length_drop]; omega
          · rw [if_neg h5]
            refine ⟨Nat.zero_le _, ?_⟩
            show (listN (L.drop 1) (L.getD 0 0).toNat).length ≤ 255
            rw [listN_length]; omega
  · rw [if_neg h1]
    by_cases h2 : (L.length : Int) < z
    · rw [if_pos h2]; exact h0
    · rw [if_neg h2]
      by_cases h3 : k = 0
      · rw [if_pos h3]; exact ⟨Nat.zero_le _, Nat.zero_le _⟩
      · rw [if_neg h3]
        by_cases h4 : k = 1
        · rw [if_pos h4]
          refine ⟨?_, Nat.zero_le _⟩
          show (bs (L.take z.toNat)).size ≤ _
          rw [bs_size, List.length_take]; omega
        · rw [if_neg h4]
          by_cases h5 : (L.take z.toNat).all (· == 0) = true
          · rw [if_pos h5]; exact h0
          · rw [if_neg h5]; exact h0
theorem StringErr1_any (s : ByteArray) (w : World) (hs : s.size ≤ maxLen) :
    Calls Tryd.prog 35 #[.string s] w fun e w' => e = .returned (.int .i64 (strE s)) ∧ w = w' := StringErr_any s w hs

set_option maxRecDepth 100000 in
theorem refDecode_bad (A : Option Addr) (c : Nat) (l : List Fld) (s : ByteArray) (w : World) (hlen : l.length ≤ maxLen) (hs : s.size ≤ maxLen) (hr : Rd w w.heap.size A (fldsV l)) (h : (layP l).2 ≠ 0 ∨ strE s ≠ 0) :
    Calls Tryd.prog 13 #[.slice A l.length c, .string s] w (DecAll (decP l s) w) := by
  have HR := Lib.hid hr
  have HL := Lib.hid hlen
  have HS := Lib.hid hs
  clear hr hlen hs
  by_cases h1 : (layP l).2 = 0
  · have h2 : strE s ≠ 0 := h.resolve_left (by simpa using h1)
    have hd : decP l s = ([], 0, strE s) := by unfold decP; rw [if_neg (by simpa using h1), if_pos h2]
    have h1' : ((layP l).2 != 0) = false := by simp [h1]
    have h2' : (strE s != 0) = true := by simp [h2]
    have HD := Lib.hid hd
    clear h h1 h2 hd
    go_enter Tryd.func13, Tryd.ntmps13
    go_wp2_with (first | (go_at_call 28; refine (LayoutErr_any A c l _ HL.out HR.out).mono ?_; rintro e w' ⟨rfl, rfl⟩) | (go_at_call 35; refine (StringErr1_any s _ HS.out).mono ?_; rintro e w' ⟨rfl, rfl⟩))
    go_ret3
    exact DecAll.none (Below.refl _ _) HD.out
  · have hd : decP l s = ([], 0, (layP l).2) := by unfold decP; rw [if_pos (by simpa using h1)]
    have h1' : ((layP l).2 != 0) = true := by simp [h1]
    have HD := Lib.hid hd
    clear h h1 hd
    go_enter Tryd.func13, Tryd.ntmps13
    go_wp2_with (first | (go_at_call 28; refine (LayoutErr_any A c l _ HL.out HR.out).mono ?_; rintro e w' ⟨rfl, rfl⟩))
    go_ret3
    exact DecAll.none (Below.refl _ _) HD.out

theorem R39.stable {B : Nat} {D : DV × Nat × Int} (g : Act) (v : Value) (X X' : World) (h : R39 B D g v X) (hb : Below X.heap.size X X') : R39 B D g v X' := by
  obtain ⟨A, c, h1, h2⟩ := h; exact ⟨A, c, h1, ownsRow_below h2 hb⟩
theorem R39.grw {B : Nat} {D : DV × Nat × Int} {B' : Nat} {T : TypeId} (hT : 3 ≠ T) (g : Act) (v : Value) (X X' : World) (h : R39 B D g v X) (hb : Grw (BoxesO B' T) X X') : R39 B D g v X' := by
  obtain ⟨A, c, h1, h2⟩ := h; exact ⟨A, c, h1, ownsRow_boxes h2 hb hT⟩
theorem R40.stable {B : Nat} {D : DV × Nat × Int} (g : Act) (v : Value) (X X' : World) (h : R40 B D g v X) (hb : Below X.heap.size X X') : R40 B D g v X' := by
  obtain ⟨A, c, h1, h2⟩ := h; exact ⟨A, c, h1, ownsRow_below h2 hb⟩
theorem R40.grw {B : Nat} {D : DV × Nat × Int} {B' : Nat} {T : TypeId} (hT : 3 ≠ T) (g : Act) (v : Value) (X X' : World) (h : R40 B D g v X) (hb : Grw (BoxesO B' T) X X') : R40 B D g v X' := by
  obtain ⟨A, c, h1, h2⟩ := h; exact ⟨A, c, h1, ownsRow_boxes h2 hb hT⟩
theorem R13.stable {p q : Nat} {T : TypeId} (g : Act) (v : Value) (X X' : World) (h : R13 p q T g v X) (hb : Below X.heap.size X X') : R13 p q T g v X' := by
  obtain ⟨b, cs, h1, h2, h3⟩ := h; exact ⟨b, cs, h1, h2, h3.below hb⟩
theorem Act.eval_of {g g' : Act} {t : Tmp} (h : g'.tmps[t]? = g.tmps[t]?) : g'.eval (.tmp t) = g.eval (.tmp t) := by simp [Act.eval, h]

set_option maxRecDepth 100000 in
set_option maxHeartbeats 2000000 in
theorem refDecode_ok (A : Option Addr) (c : Nat) (l : List Fld) (s : ByteArray) (w : World) (hr : Rd w w.heap.size A (fldsV l)) (h : (layP l).2 = 0) (hs : s.size ≤ 200000) :
    Calls Tryd.prog 13 #[.slice A l.length c, .string s] w (DecAll (decP l s) w) := by
  have h0 : strE s = 0 := strE_zero.2 hs
  have hd : decP l s = decG (bl s) l [] 0 := by unfold decP; rw [if_neg (by simpa using h), if_neg (by simpa using h0)]
  have h1' : ((layP l).2 != 0) = false := by simp [h]
  have h2' : (strE s != 0) = false := by simp [h0]
  obtain ⟨hl24, hfz⟩ := layP_zero h
  obtain ⟨i0, hi, hz0, hz1, hz2⟩ := info_parts info_bv
  have HL : Hid (l.length ≤ maxLen) := Lib.hid (by unfold maxLen; omega)
  have HS : Hid (s.size ≤ maxLen) := Lib.hid (by unfold maxLen; omega)
  have HR := Lib.hid hr
  have HFZ := Lib.hid hfz
  have HD := Lib.hid hd
  clear hr h hfz hd h0
  go_enter Tryd.func13, Tryd.ntmps13
  go_wp2_with (first | (go_at_call 28; refine (LayoutErr_any A c l _ HL.out HR.out).mono ?_; rintro e w' ⟨rfl, rfl⟩) | (go_at_call 35; refine (StringErr1_any s _ HS.out).mono ?_; rintro e w' ⟨rfl, rfl⟩))
  go_loopw [9, 10, 11] (fun v at' i wr => ∃ (k : Nat) (vs : List VC) (a : Nat), k ≤ l.length ∧ i = .int .i64 k ∧ at' = .int .i64 a ∧ a ≤ s.size ∧ Below w.heap.size w wr ∧ decP l s = decG (bl s) (l.drop k) (vs.map dvOf) a ∧ vs.length = k ∧
    wr.ownsRow w.heap.size 47 3 v k (vcsV vs) ∧ ∀ x ∈ vs, VIn wr v x) (fun _ _ i _ => l.length - (intOf i).toNat)
  case atStart => exact ⟨0, [], 0, Nat.zero_le _, rfl, rfl, Nat.zero_le _, Below.refl _ _, HD.out, rfl, World.ownsRow_nil _ _ _ _, fun x hx => absurd hx (List.not_mem_nil)⟩
  case round =>
    obtain ⟨k, vs, a, hk, rfl, rfl, ha, hb, hf, hvl, hown, hin⟩ := hrel
    have hbs := hb.size
    by_cases hlt : k < l.length
    · obtain ⟨b, o, rfl, hB, hc⟩ := (HR.out.below hb).opened (by rw [fldsV_length]; omega)
      obtain ⟨g0, g1⟩ := fldsV_get l k hlt
      have d0 : wr.cell? ⟨b, o + k * 2, none⟩ = _ := hc _ _ g0
      have d1 : wr.cell? ⟨b, o + k * 2 + 1, none⟩ = _ := hc _ _ g1
      have hfe := HFZ.out k hlt
      have hdr : l.drop k = l[k] :: l.drop (k + 1) := List.drop_eq_getElem_cons hlt
      obtain ⟨fk, z, hfk⟩ : ∃ x y, ((x, y) : Fld) = l[k] := ⟨_, _, rfl⟩
      rw [← hfk] at d0 d1 hfe hdr
      dsimp only at d0 d1 hfe
      rw [hdr] at hf
      have hdl := decF_len (k := fk) (L := (bl s).drop a) (fld_bd hfe).1
      unfold decG at hf
      dsimp only at hf
      obtain ⟨D, hD⟩ : ∃ D, D = decF fk z ((bl s).drop a) := ⟨_, rfl⟩
      have hext : bl (s.extract a s.size) = (bl s).drop a := by rw [bl_extract, ← bl_length, List.take_length]
      have hcall : ∀ W, Calls Tryd.prog 36 #[.agg #[.int .i64 fk, .int .i64 z], .string (s.extract a s.size)] W (DecPost D W) := fun W => by
        have := decodeField_any fk z (s.extract a s.size) W hfe (by rw [ByteArray.size_extract]; omega)
        rw [hext, ← hD] at this
        exact this
      have hsz := decF_sz fk z ((bl s).drop a)
      rw [← hD] at hf hdl hsz
      have hsz1 : D.1.s.size ≤ maxLen := by have := hsz.1; rw [List.length_drop, bl_length] at this; unfold maxLen; omega
      have hsz2 : D.1.ns.length ≤ maxLen := by unfold maxLen; omega
      have HSZ1 := Lib.hid hsz1
      have HSZ2 := Lib.hid hsz2
      clear hsz hsz1 hsz2
      have hdl2 : D.2.2 = 0 → D.2.1 ≤ s.size - a := fun h => by have := hdl h; rw [List.length_drop, bl_length] at this; exact this
      have HF := Lib.hid hf
      have HIN := Lib.hid hin
      have HOWN := Lib.hid hown
      have HC := Lib.hid hcall
      have HDL := Lib.hid hdl2
      have HVL := Lib.hid hvl
      have hbw : b < wr.heap.size := by omega
      have ha' : (a : Int) ≤ s.size := by omega
      clear hD hext hcall hdl hdl2 hf hin hown hvl hfk hdr g0 g1 hc hfe
      go_wp2
      (refine wp_region_flowS (BoxesO wr.heap.size 47) [false, false, false, false, false, false, false, true, true, true, true, true, true, true, true] [⟨7, [], R39 wr.heap.size D, false⟩, ⟨8, [7], R39 wr.heap.size D, false⟩, ⟨9, [8], R40 wr.heap.size D, false⟩, ⟨10, [8], IsV (.int .i64 D.2.1), false⟩, ⟨11, [8], IsV (.int .i64 D.2.2), false⟩, ⟨12, [], fun _ => AtBox wr.heap.size 47 3, false⟩, ⟨13, [9, 12], R13 12 40 47, true⟩, ⟨14, [10], IsV (.int .i64 D.2.1), false⟩] (by kernel_rfl) (by kernel_rfl) (by kernel_rfl) (by simp) ?_; simp only [pick, List.length_cons, List.length_nil, List.drop_succ_cons, List.drop_zero, Nat.zero_add, Nat.reduceAdd]; apply Exists.intro; refine ⟨fun X hX => ?_, ?_⟩; (focus (have hgX := regcellB hX; have hsX := hX.size; (try simp only [World.size_alloc] at hsX); (repeat (go_big_quiet_step ((first | fail)))); exact wpQuiet_nil rfl)); simp only [wpNO, told, toldAll, List.contains_cons, List.contains_nil, List.mem_cons, List.not_mem_nil, forall_eq_or_imp, false_implies, implies_true, and_true, Nat.reduceBEq, BEq.rfl, beq_self_eq_true, Bool.or_false, Bool.false_or, Bool.true_or, Bool.or_true, Bool.false_eq_true, if_true, if_false, true_implies, dstAt, List.getElem?_toArray, List.getElem?_cons_succ, List.getElem?_cons_zero, Option.some.injEq, forall_eq', Option.bind_some, Act.put, List.setIfInBounds_toArray, List.set_cons_succ, List.set_cons_zero])
      have hT : 3 ≠ 47 := by decide
      refine ⟨⟨R39.stable _, R39.grw hT _, fun _ _ _ h => h⟩, fun X hX => ?_, fun v7 => ⟨⟨R39.stable _, R39.grw hT _, fun _ _ _ _ h => h⟩, fun X hX hf7 => ?_, fun v8 => ⟨⟨R40.stable _, R40.grw hT _, fun _ _ _ _ h => h⟩, fun X hX hf8 => ?_, fun v9 =>
        ⟨⟨fun v X X' h _ => h, fun v X X' h _ => h, fun _ _ _ _ h => h⟩, fun X hX hf8 => ?_, fun v10 => ⟨⟨fun v X X' h _ => h, fun v X X' h _ => h, fun _ _ _ _ h => h⟩, fun X hX hf8 => ?_, fun v11 =>
        ⟨⟨AtBox.stable, AtBox.grw, fun _ _ _ h => h⟩, fun X hX => ?_, fun v12 => ⟨⟨R13.stable _, fun h => (by cases h), fun g' v X hg h => ?_⟩, fun X hX hcalm hf => ?_, fun v13 => ⟨⟨fun v X X' h _ => h, fun v X X' h _ => h, fun _ _ _ _ h => h⟩, fun X hX hf10 => ?_, fun v14 X hX hf => ?_⟩⟩⟩⟩⟩⟩⟩⟩
      · refine .inl (leaves_call (f := 36) (args := #[.agg #[.int .i64 fk, .int .i64 z], .string (s.extract a s.size)]) (by kernel_rfl) ?_)
        refine (HC.out X).mono ?_
        intro e W1 hp
        obtain ⟨v, h1, h2, h3⟩ := hp.leaves
        exact ⟨v, h1, h2, h3 _ _ hX.size⟩
      · obtain ⟨A1, c1, rfl, ho1⟩ := hf7
        exact .inl (leaves_pure (by kernel_rfl) ⟨A1, c1, rfl, ho1⟩)
      · obtain ⟨A1, c1, rfl, ho1⟩ := hf8
        exact .inl (leaves_pure (by kernel_rfl) ⟨A1, c1, rfl, ho1⟩)
      · obtain ⟨A1, c1, rfl, ho1⟩ := hf8
        exact .inl (leaves_pure (v := .int .i64 D.2.1) (by kernel_rfl) rfl)
      · obtain ⟨A1, c1, rfl, ho1⟩ := hf8
        exact .inl (leaves_pure (v := .int .i64 D.2.2) (by kernel_rfl) rfl)
      · exact .inl (leaves_alloc (v := .pointer (some ⟨X.heap.size, 0, none⟩)) (obj := .cells #[.int .i64 0, .string ⟨#[]⟩, .slice none 0 0] 47) (by kernel_rfl) ⟨X.heap.size, _, rfl, hX.size, rfl, heap_alloc_new _ _⟩)
      · obtain ⟨b', cs, h1, h2, h3⟩ := h
        replace h1 : v12 = _ := h1
        replace h2 : v9 = _ := h2
        exact ⟨b', cs, by simp [Act.eval, hg.2, h1], by simp [Act.eval, hg.1, h2], h3⟩
      · obtain ⟨⟨bx, cs0, rfl, hbx, hcs, hbox⟩, A1, c1, rfl, ho1⟩ := hf
        exact leaves_storeB wr.heap.size 47 (.tmp 12) (.tmp 40) rfl bx #[.int .i64 D.1.n, .string D.1.s, .slice A1 D.1.ns.length c1] rfl rfl 47 cs0 hbox hbx (by kernel_rfl) hcs (by kernel_rfl) (fun X' h => ⟨bx, _, rfl, rfl, h⟩)
      · replace hf10 : v10 = .int .i64 D.2.1 := hf10
        subst hf10
        exact .inl (leaves_pure (v := .int .i64 D.2.1) (by kernel_rfl) rfl)
      · obtain ⟨h14, ⟨b2, cs2, e1, e2, hbox2⟩, ⟨bx, cs0, rfl, hbx, _, _⟩, h11, h10, ⟨A1, c1, rfl, ho1⟩, _⟩ := hf
        replace e1 : Value.pointer (some ⟨bx, 0, none⟩) = .pointer (some ⟨b2, 0, none⟩) := e1
        replace e2 : Value.agg #[.int .i64 D.1.n, .string D.1.s, .slice A1 D.1.ns.length c1] = .agg cs2 := e2
        replace h14 : v14 = .int .i64 D.2.1 := h14
        replace h11 : v11 = .int .i64 D.2.2 := h11
        injection e1 with e1
        injection e1 with e1
        injection e1 with e1
        injection e2 with e2
        subst e1 e2 h14 h11
        have hbX : Below wr.heap.size wr X := BoxesO.below hX (Below.refl _ _) (Nat.le_refl _)
        have hxc := hbox2.cells
        have c0 : X.cell? ⟨bx, 0, none⟩ = some (.int .i64 D.1.n) := hxc 0
        have c1' : X.cell? ⟨bx, 1, none⟩ = some (.string D.1.s) := hxc 1
        have c2 : X.cell? ⟨bx, 2, none⟩ = some (.slice A1 D.1.ns.length c1) := hxc 2
        have hbl := hbox2.lt
        have hBX := Lib.hid hbX
        have HO1 := Lib.hid ho1
        have hxs := hX.size
        clear hX hbox2 hxc hbX ho1 h10
        by_cases hz : D.2.2 = 0
        · have hz' : (D.2.2 != 0) = false := by simp [hz]
          have HZ := Lib.hid hz
          have hdl := HDL.out hz
          have hf := HF.out
          rw [if_neg (by simpa using hz)] at hf
          have HF2 := Lib.hid hf
          clear hz hf
          go_wp2_with (at_builtin; refine wpList_append_rd _ rfl (.tmp 46) (.tmp 48) 23 rfl w.heap.size 47 i0 _ 3 48 Tryd.underlying23 hi hz0 hz1 hz2 rfl (by decide) _ k (vcsV vs) rfl ((ownsRow_below HOWN.out hBX.out).alloc _) (X.heap.size + 1) (some ⟨X.heap.size, 0, none⟩) 1 1 [.int .i64 D.1.n, .string D.1.s, .slice A1 D.1.ns.length c1] rfl rfl (by have h := Rd.of_block (heap_alloc_new X (.cells #[.int .i64 D.1.n, .string D.1.s, .slice A1 D.1.ns.length c1] 47)); rw [World.size_alloc] at h; exact h) (by intro u hu; simp at hu; rcases hu with rfl | rfl | rfl <;> rfl) (by unfold maxLen; omega) (by omega) (by simp; omega) ?_; intro v' w1 hown1 hgrow hown hbel)
          have hin1 : ∀ x ∈ vs ++ [⟨D.1.n, D.1.s, A1, c1, D.1.ns⟩], VIn w1 v' x := fun x hx => by
            rcases List.mem_append.1 hx with hx | hx
            · exact (((HIN.out x hx).below hBX.out).below (bel_alloc (Below.refl _ _) _)).grown hgrow hown
            · obtain rfl := List.mem_singleton.1 hx
              exact ⟨HSZ1.out, HSZ2.out, RdA.grown ((RdA.fresh (w := wr) (fun g hg => (HOWN.out.lt g hg).2) HO1.out).below (bel_alloc (Below.refl _ _) _)) hgrow hown⟩
          have hown2 : w1.ownsRow w.heap.size 47 3 v' (k + 1) (vcsV (vs ++ [⟨D.1.n, D.1.s, A1, c1, D.1.ns⟩])) := by rw [vcsV_snoc]; exact hown1
          have hb1 : Below w.heap.size w w1 := (bel_alloc (bel_trans hb hBX.out) _).trans hbel
          have HIN1 := Lib.hid hin1
          have HOWN2 := Lib.hid hown2
          clear hin1 hown2 hown1 hgrow hown hbel
          go_wp2
          go_roundw
          case rel => exact ⟨k + 1, vs ++ [⟨D.1.n, D.1.s, A1, c1, D.1.ns⟩], a + D.2.1, by omega, by go_num, by go_num, by omega, hb1, by rw [HF2.out, List.map_append]; rfl, by rw [List.length_append, HVL.out]; rfl, HOWN2.out, HIN1.out⟩
          case measure => simp [intOf]; omega
        · have hz' : (D.2.2 != 0) = true := by simp [hz]
          have hf := HF.out
          rw [if_pos (by simpa using hz)] at hf
          have HF2 := Lib.hid hf
          clear hz hf
          go_wp2
          go_ret3
          exact DecAll.none (bel_trans hb hBX.out) HF2.out
    · obtain rfl : k = l.length := by omega
      obtain ⟨A', c', rfl, hrd⟩ := ownsRow_form hown
      rw [List.drop_length] at hf
      have HF := Lib.hid hf
      have HIN := Lib.hid hin
      have HVL := Lib.hid hvl
      clear hf hown hin hvl
      go_wp2
      go_ret3
      refine ⟨A', c', vs, ?_, ?_, hrd, fun x hx => (HIN.out x hx).ok, hb⟩
      · rw [HF.out, HVL.out]; rfl
      · rw [HF.out]; rfl

theorem refDecode_any (A : Option Addr) (c : Nat) (l : List Fld) (s : ByteArray) (w : World) (hlen : l.length ≤ maxLen) (hs : s.size ≤ maxLen) (hr : Rd w w.heap.size A (fldsV l)) :
    Calls Tryd.prog 13 #[.slice A l.length c, .string s] w (DecAll (decP l s) w) := by
  by_cases h1 : (layP l).2 = 0
  · by_cases h2 : strE s = 0
    · exact refDecode_ok A c l s w hr h1 (strE_zero.1 h2)
    · exact refDecode_bad A c l s w hlen hs hr (.inr h2)
  · exact refDecode_bad A c l s w hlen hs hr (.inl h1)
end Go.Proofs.YtiomfkgbaemmkaaDoor
