/-
  BytesEncoded, BytesDecoded: the walks.
-/
import Derived.Test.YtiomfkgbaemmkaaDoorDec12
namespace Go.Proofs.YtiomfkgbaemmkaaDoor
set_option linter.unusedVariables false
set_option linter.unusedSimpArgs false
open Go.RowKit Go.Sort

theorem getD_dv {vs ws : List VC} (h : vs.map dvOf = ws.map dvOf) (i : Nat) : dvOf (vs.getD i vc0) = dvOf (ws.getD i vc0) := by
  have h1 : (vs.map dvOf).getD i (dvOf vc0) = (ws.map dvOf).getD i (dvOf vc0) := by rw [h]
  rw [List.getD_eq_getElem?_getD, List.getD_eq_getElem?_getD, List.getElem?_map, List.getElem?_map] at h1
  rw [List.getD_eq_getElem?_getD, List.getD_eq_getElem?_getD]
  cases h2 : vs[i]? <;> cases h3 : ws[i]? <;> simp [h2, h3] at h1 ⊢ <;> exact h1
theorem encE_congr {vs ws : List VC} (h : vs.map dvOf = ws.map dvOf) : encE vs = encE ws := by
  funext i f
  have h1 := getD_dv h i
  unfold dvOf at h1
  injection h1 with a b c
  unfold encE; rw [a, b, c]
theorem encAt_congr {vs ws : List VC} (h : vs.map dvOf = ws.map dvOf) (l : List Fld) (k : Nat) : encAt l vs k = encAt l ws k := by
  unfold encAt
  congr 1
  funext i
  have h1 := getD_dv h i
  unfold dvOf at h1
  injection h1 with a b c
  rw [a, b, c]
theorem encErr_congr {vs ws : List VC} (h : vs.map dvOf = ws.map dvOf) (l : List Fld) : encErr l vs = encErr l ws := by
  have hl : vs.length = ws.length := by have := congrArg List.length h; simpa using this
  unfold encErr; rw [encE_congr h, hl]
theorem encStr_congr {vs ws : List VC} (h : vs.map dvOf = ws.map dvOf) (l : List Fld) : encStr l vs = encStr l ws := by
  unfold encStr; rw [encErr_congr h, encAt_congr h]

theorem okL_enc {l : List Fld} {vs : List VC} (h : encErr l vs = 0) : (layP l).2 = 0 ∧ vs.length = l.length ∧ okL l (vs.map dvOf) := by
  unfold encErr at h
  split at h
  · rename_i h1; exact absurd h h1
  · rename_i h1
    have h1' : (layP l).2 = 0 := Classical.not_not.1 h1
    split at h
    · cases h
    · rename_i h2
      have h2' : vs.length = l.length := Classical.not_not.1 h2
      refine ⟨h1', h2', okL_of l _ (by simpa using h2') fun j hj hj' => ⟨(layP_zero h1').2 j hj, ?_⟩⟩
      have := eachE_zero (encE vs) l 0 h j hj
      rw [Nat.zero_add] at this
      unfold encE at this
      have hv : vs.getD j vc0 = vs[j]'(by simpa using hj') := by rw [List.getD_eq_getElem?_getD, List.getElem?_eq_getElem (by simpa using hj')]; rfl
      rw [hv] at this
      rw [List.getElem_map]
      exact this
theorem enc_dec {l : List Fld} {vs : List VC} (h : encErr l vs = 0) : decP l (encStr l vs) = (vs.map dvOf, (encStr l vs).size, 0) ∧ (encStr l vs).size ≤ 200000 := by
  obtain ⟨h1, h2, h3⟩ := okL_enc h
  have he : encStr l vs = bs (encAt l vs l.length) := by unfold encStr; rw [if_pos h]
  have hl := (layP_zero h1).1
  have hlen : (encAt l vs l.length).length ≤ 256 * l.length := by
    have : encErr l vs = (eachE (encE vs) 0 l).2 := by simp [encErr, h1, h2]
    exact encAt_length (layP_zero h1).2 (by rw [← this]; exact h) l.length (Nat.le_refl _)
  have hsz : (encStr l vs).size ≤ 200000 := by rw [he, bs_size]; omega
  refine ⟨?_, hsz⟩
  unfold decP
  rw [if_neg (by simpa using h1), if_neg (by simpa using strE_zero.2 hsz)]
  have hL := encAt_encL l vs h2 l.length (Nat.le_refl _)
  rw [List.take_length, ← h2, List.take_length] at hL
  have := decG_enc l (vs.map dvOf) [] [] (bl (encStr l vs)) h3 (by rw [he, bl_bs, ← h2, hL]; rfl)
  rw [List.length_nil, List.nil_append] at this
  rw [this, bl_length]
theorem dec_enc {l : List Fld} {s : ByteArray} {vs : List VC} (h : (decP l s).2.2 = 0) (hv : vs.map dvOf = (decP l s).1) : encErr l vs = 0 ∧ encStr l vs = s.extract 0 (decP l s).2.1 ∧ (decP l s).2.1 ≤ s.size := by
  unfold decP at h hv ⊢
  by_cases h1 : (layP l).2 = 0
  · rw [if_neg (by simpa using h1)] at h hv ⊢
    by_cases h2 : strE s = 0
    · rw [if_neg (by simpa using h2)] at h hv ⊢
      obtain ⟨hl, hf⟩ := layP_zero h1
      obtain ⟨D, d1, d2, _, d4, d5⟩ := enc_decG (bl s) l [] 0 (fun f hfm => by
        obtain ⟨j, hj, rfl⟩ := List.getElem_of_mem hfm; exact hf j hj) (Nat.zero_le _) h
      rw [List.nil_append] at d1
      rw [d1] at hv
      obtain ⟨o1, o2⟩ := okL_at l D d2
      have hlen : vs.length = l.length := by have := congrArg List.length hv; rw [List.length_map] at this; omega
      have he : encErr l vs = 0 := by
        unfold encErr
        rw [if_neg (by simpa using h1), if_neg (by simpa using hlen), eachE_all]
        intro j hj
        rw [Nat.zero_add]
        have hj' : j < vs.length := by omega
        have h3 := (o2 j hj (by omega)).2
        have hD : D[j]'(by omega) = dvOf vs[j] := by
          have h4 : (vs.map dvOf)[j]? = D[j]? := by rw [hv]
          rw [List.getElem?_map, List.getElem?_eq_getElem hj', List.getElem?_eq_getElem (by omega)] at h4
          exact (Option.some.inj h4).symm
        rw [hD] at h3
        unfold encE
        have hvj : vs.getD j vc0 = vs[j] := by rw [List.getD_eq_getElem?_getD, List.getElem?_eq_getElem hj']; rfl
        rw [hvj]; exact h3
      refine ⟨he, ?_, d4⟩
      have hL := encAt_encL l vs hlen l.length (Nat.le_refl _)
      rw [List.take_length, ← hlen, List.take_length, hv] at hL
      unfold encStr
      rw [if_pos he]
      apply bl_inj
      rw [bl_bs, ← hlen, hL, bl_extract, List.drop_zero, d5]; simp
    · rw [if_pos (by simpa using h2)] at h; exact absurd h h2
  · rw [if_pos (by simpa using h1)] at h; exact absurd h h1

theorem decG_len (L : List UInt8) : ∀ (l : List Fld) (acc : List DV) (a : Nat), (decG L l acc a).1.length ≤ acc.length + l.length
  | [], acc, a => by unfold decG; simp
  | f :: l, acc, a => by
    unfold decG
    split
    · simp
    · have := decG_len L l (acc ++ [(decF f.1 f.2 (L.drop a)).1]) (a + (decF f.1 f.2 (L.drop a)).2.1)
      simp at this ⊢; omega
theorem decP_len (l : List Fld) (s : ByteArray) : (decP l s).1.length ≤ l.length := by
  unfold decP
  split
  · simp
  · split
    · simp
    · have := decG_len (bl s) l [] 0
      simpa using this
theorem CopyLay_rd (A : Option Addr) (c : Nat) (l : List Fld) (w : World) (hlen : l.length ≤ 1000) (hr : Rd w w.heap.size A (fldsV l)) :
    Calls Tryd.prog 8 #[.slice A l.length c] w fun e w' =>
      ∃ A' c', e = .returned (.slice A' l.length c') ∧ Rd w' w'.heap.size A' (fldsV l) ∧ Below w.heap.size w w' :=
  (CopyLayout_any A c l w hlen hr).mono fun e w' ⟨v, he, ho, hb⟩ => by
    obtain ⟨A', c', rfl, hr'⟩ := ownsRow_form ho
    exact ⟨A', c', he, hr', hb⟩

/-- a layout and values that stand -/
structure Inp (w : World) (A : Option Addr) (l : List Fld) (A2 : Option Addr) (vs : List VC) (W : World) : Prop where
  b : Below w.heap.size w W
  r : Rd W W.heap.size A (fldsV l)
  r2 : Rd W W.heap.size A2 (vcsV vs)
  v : ∀ x ∈ vs, VOk W W.heap.size x
theorem Inp.next {w W W' : World} {A A2 : Option Addr} {l : List Fld} {vs : List VC} (h : Inp w A l A2 vs W) (hb : Below W.heap.size W W') : Inp w A l A2 vs W' :=
  ⟨bel_trans h.b hb, h.r.below' hb, h.r2.below' hb, fun x hx => ((h.v x hx).below hb).mono hb.size⟩

def VTrue (w : World) (e : Ending) (w' : World) : Prop := e = .returned (.bool true) ∧ Below w.heap.size w w'

set_option maxRecDepth 100000 in
set_option maxHeartbeats 2000000 in
theorem wBytesEncoded (A : Option Addr) (c : Nat) (l : List Fld) (A2 : Option Addr) (c2 : Nat) (vs : List VC) (w : World) (hlen : l.length ≤ maxLen) (hvl : vs.length ≤ maxLen) (hi : Inp w A l A2 vs w) :
    Calls Tryd.prog 3 #[.slice A l.length c, .slice A2 vs.length c2] w (VTrue w) := by
  have HL := Lib.hid hlen
  have HVL := Lib.hid hvl
  have HI := Lib.hid hi
  clear hlen hvl hi
  cases hfew : fewB l vs
  · have HF := Lib.hid hfew
    clear hfew
    go_enter Tryd.func3, Tryd.ntmps3
    go_wp2_with (first
      | (go_at_call 5; refine (awake_any _).mono ?_; rintro e W1 ⟨rfl, hb1⟩; have HI1 := Lib.hid (HI.out.next hb1); clear hb1)
      | (go_at_call 6; refine (few_any A A2 c c2 l vs _ HL.out HVL.out HI1.out.r2 HI1.out.v).mono ?_; rintro e w' ⟨rfl, rfl⟩; rw [HF.out]))
    go_ret
    exact ⟨rfl, HI1.out.b⟩
  · have HF := Lib.hid hfew
    have hf := hfew
    simp only [fewB, Bool.and_eq_true, decide_eq_true_eq] at hf
    obtain ⟨⟨hl26, hv26⟩, hall⟩ := hf
    have hsz : ∀ x ∈ vs, x.ns.length ≤ 1000000 := fun x hx => by
      have := List.all_eq_true.1 hall x hx
      simp at this; omega
    have HSZ := Lib.hid hsz
    have hk : l.length ≤ 1000 := by omega
    have hvk : vs.length ≤ 1000 := by omega
    clear hfew hall hsz
    obtain ⟨er, her⟩ : ∃ x, x = encErr l vs := ⟨_, rfl⟩
    obtain ⟨S, hS⟩ : ∃ x, x = encStr l vs := ⟨_, rfl⟩
    have hE : ∀ W A' c' A'' c'' vs', vs'.map dvOf = vs.map dvOf → Rd W W.heap.size A' (fldsV l) → Rd W W.heap.size A'' (vcsV vs') → (∀ x ∈ vs', VOk W W.heap.size x) →
        Calls Tryd.prog 7 #[.slice A' l.length c', .slice A'' vs'.length c''] W fun e w' => e = .returned (.tuple #[.string S, .int .i64 er]) ∧ Below W.heap.size W w' := fun W A' c' A'' c'' vs' hm h1 h2 h3 => by
      rw [hS, her, ← encErr_congr hm, ← encStr_congr hm]
      have hl' : vs'.length = vs.length := by have := congrArg List.length hm; simpa using this
      exact Encode_any A' A'' c' c'' l vs' W HL.out (by rw [hl']; exact HVL.out) h1 h2 (fun j hj => by
        rw [List.getD_eq_getElem?_getD, List.getElem?_eq_getElem hj]; exact h3 _ (List.getElem_mem hj))
    have hRE : ∀ W, Inp w A l A2 vs W → Calls Tryd.prog 10 #[.slice A l.length c, .slice A2 vs.length c2] W fun e w' => e = .returned (.tuple #[.string S, .int .i64 er]) ∧ Below W.heap.size W w' := fun W h => by
      rw [hS, her]; exact refEncode_any A A2 c c2 l vs W HL.out HVL.out h.r h.r2 h.v
    have HE := Lib.hid hE
    have HRE := Lib.hid hRE
    have HER := Lib.hid her
    have HS := Lib.hid hS
    clear hE hRE her hS
    by_cases he : er = 0
    · have HE0 := Lib.hid he
      have he' : (er != 0) = false := by simp [he]
      clear he
      have hde := enc_dec (l := l) (vs := vs) (by rw [← HER.out]; exact HE0.out)
      rw [← HS.out] at hde
      obtain ⟨hde1, hde2⟩ := hde
      have HDE := Lib.hid hde1
      clear hde1
      go_enter Tryd.func3, Tryd.ntmps3
      go_wp2_with (first
        | (go_at_call 5; refine (awake_any _).mono ?_; rintro e W1 ⟨rfl, hb1⟩; have HI1 := Lib.hid (HI.out.next hb1); clear hb1)
        | (go_at_call 6; refine (few_any A A2 c c2 l vs _ HL.out HVL.out HI1.out.r2 HI1.out.v).mono ?_; rintro e w' ⟨rfl, rfl⟩; rw [HF.out]))
      refine (CopyLay_rd A c l _ hk HI1.out.r).mono ?_
      rintro e W2 ⟨A3, c3, rfl, r3, hb2⟩
      have HI2 := Lib.hid (HI1.out.next hb2)
      have HR3 := Lib.hid r3
      clear hb2 r3
      go_wp2_with fail
      refine (CopyValues_any A2 c2 vs _ hvk HI2.out.r2 (fun x hx => ⟨HI2.out.v x hx, HSZ.out x hx⟩)).mono ?_
      rintro e W3 ⟨A4, c4, vs', rfl, hm, r4, v4, hb3⟩
      have HI3 := Lib.hid (HI2.out.next hb3)
      have HC4 := Lib.hid (HE.out _ A3 c3 A4 c4 vs' hm (HR3.out.below' hb3) r4 v4)
      clear hm r4 v4 hb3
      go_wp2_with fail
      refine HC4.out.mono ?_
      rintro e W4 ⟨rfl, hb4⟩
      have HI4 := Lib.hid (HI3.out.next hb4)
      clear hb4
      go_wp2_with fail
      refine (HRE.out _ HI4.out).mono ?_
      rintro e W5 ⟨rfl, hb5⟩
      have HI5 := Lib.hid (HI4.out.next hb5)
      clear hb5
      go_wp2_with fail
      refine (CopyLay_rd A c l _ hk HI5.out.r).mono ?_
      rintro e W6 ⟨A5, c5, rfl, r5, hb6⟩
      have HI6 := Lib.hid (HI5.out.next hb6)
      have HR5 := Lib.hid r5
      clear hb6 r5
      go_wp2_with fail
      refine (DecodeFields_any A5 c5 l S _ HL.out (by unfold maxLen; omega) HR5.out).mono ?_
      rintro e W7 ⟨A6, c6, ws, he, hwm, r6, v6, hb7⟩
      rw [HDE.out] at he hwm
      subst he
      have HI7 := Lib.hid (HI6.out.next hb7)
      have hwl : ws.length = vs.length := by have := congrArg List.length hwm; simpa using this
      have HSV := Lib.hid (SameValues_same A6 A2 c6 c2 ws vs W7 (by rw [hwl]; exact HVL.out) hwm r6 HI7.out.r2 v6 HI7.out.v)
      clear hwm r6 v6 hb7 hwl
      dsimp only
      go_wp2_with fail
      refine HSV.out.mono ?_
      rintro e W8 ⟨rfl, hb8⟩
      have HI8 := Lib.hid (HI7.out.next hb8)
      clear hb8
      go_wp2_with fail
      go_ret
      exact ⟨rfl, HI8.out.b⟩
    · have he' : (er != 0) = true := by simp [he]
      clear he
      go_enter Tryd.func3, Tryd.ntmps3
      go_wp2_with (first
        | (go_at_call 5; refine (awake_any _).mono ?_; rintro e W1 ⟨rfl, hb1⟩; have HI1 := Lib.hid (HI.out.next hb1); clear hb1)
        | (go_at_call 6; refine (few_any A A2 c c2 l vs _ HL.out HVL.out HI1.out.r2 HI1.out.v).mono ?_; rintro e w' ⟨rfl, rfl⟩; rw [HF.out]))
      refine (CopyLay_rd A c l _ hk HI1.out.r).mono ?_
      rintro e W2 ⟨A3, c3, rfl, r3, hb2⟩
      have HI2 := Lib.hid (HI1.out.next hb2)
      have HR3 := Lib.hid r3
      clear hb2 r3
      go_wp2_with fail
      refine (CopyValues_any A2 c2 vs _ hvk HI2.out.r2 (fun x hx => ⟨HI2.out.v x hx, HSZ.out x hx⟩)).mono ?_
      rintro e W3 ⟨A4, c4, vs', rfl, hm, r4, v4, hb3⟩
      have HI3 := Lib.hid (HI2.out.next hb3)
      have HC4 := Lib.hid (HE.out _ A3 c3 A4 c4 vs' hm (HR3.out.below' hb3) r4 v4)
      clear hm r4 v4 hb3
      go_wp2_with fail
      refine HC4.out.mono ?_
      rintro e W4 ⟨rfl, hb4⟩
      have HI4 := Lib.hid (HI3.out.next hb4)
      clear hb4
      go_wp2_with fail
      refine (HRE.out _ HI4.out).mono ?_
      rintro e W5 ⟨rfl, hb5⟩
      have HI5 := Lib.hid (HI4.out.next hb5)
      clear hb5
      go_wp2_with fail
      go_ret
      exact ⟨rfl, HI5.out.b⟩

set_option maxRecDepth 100000 in
set_option maxHeartbeats 2000000 in
theorem wBytesDecoded (A : Option Addr) (c : Nat) (l : List Fld) (s : ByteArray) (w : World) (hlen : l.length ≤ maxLen) (hs : s.size ≤ maxLen) (hr : Rd w w.heap.size A (fldsV l)) :
    Calls Tryd.prog 4 #[.slice A l.length c, .string s] w (VTrue w) := by
  have HL := Lib.hid hlen
  have hs' := hs
  unfold maxLen at hs'
  have HS := Lib.hid hs
  have HI : Hid (Inp w A l none [] w) := Lib.hid ⟨Below.refl _ _, hr, Rd.nil _ _ _, fun x hx => absurd hx (List.not_mem_nil)⟩
  clear hlen hr hs
  have hfw : ∀ W, Calls Tryd.prog 6 #[.slice A l.length c, .slice none 0 0] W fun e w' => e = .returned (.bool (fewB l [])) ∧ W = w' := fun W =>
    few_any A none c 0 l [] W HL.out (Nat.zero_le _) (Rd.nil _ _ _) (fun x hx => absurd hx (List.not_mem_nil))
  have HFW := Lib.hid hfw
  clear hfw
  cases hfew : fewB l []
  · rw [hfew] at HFW
    clear hfew
    go_enter Tryd.func4, Tryd.ntmps4
    go_wp2_with (first
      | (go_at_call 5; refine (awake_any _).mono ?_; rintro e W1 ⟨rfl, hb1⟩; have HI1 := Lib.hid (HI.out.next hb1); clear hb1)
      | (go_at_call 6; refine (HFW.out _).mono ?_; rintro e w' ⟨rfl, rfl⟩))
    go_ret
    exact ⟨rfl, HI1.out.b⟩
  · rw [hfew] at HFW
    have hf := hfew
    simp only [fewB, Bool.and_eq_true, decide_eq_true_eq] at hf
    obtain ⟨⟨hl26, _⟩, _⟩ := hf
    have hk : l.length ≤ 1000 := by omega
    clear hfew
    by_cases h5 : s.size ≤ 500
    · have h5' : decide ((s.size : Int) > 500) = false := by simp; omega
      obtain ⟨R, hR⟩ : ∃ R, R = decP l s := ⟨_, rfl⟩
      have hD : ∀ W A' c', Rd W W.heap.size A' (fldsV l) → Calls Tryd.prog 11 #[.slice A' l.length c', .string s] W (DecAll R W) := fun W A' c' h => by rw [hR]; exact DecodeFields_any A' c' l s W HL.out HS.out h
      have hRD : ∀ W A' c', Rd W W.heap.size A' (fldsV l) → Calls Tryd.prog 13 #[.slice A' l.length c', .string s] W (DecAll R W) := fun W A' c' h => by rw [hR]; exact refDecode_any A' c' l s W HL.out HS.out h
      have HD := Lib.hid hD
      have HRD := Lib.hid hRD
      have HR := Lib.hid hR
      clear hD hRD hR
      go_enter Tryd.func4, Tryd.ntmps4
      go_wp2_with (first
        | (go_at_call 5; refine (awake_any _).mono ?_; rintro e W1 ⟨rfl, hb1⟩; have HI1 := Lib.hid (HI.out.next hb1); clear hb1)
        | (go_at_call 6; refine (HFW.out _).mono ?_; rintro e w' ⟨rfl, rfl⟩))
      refine (CopyLay_rd A c l _ hk HI1.out.r).mono ?_
      rintro e W2 ⟨A2, c2, rfl, r2, hb2⟩
      have HI2 := Lib.hid (HI1.out.next hb2)
      have HR2 := Lib.hid r2
      clear hb2 r2
      go_wp2_with fail
      refine (HD.out _ A2 c2 HR2.out).mono ?_
      rintro e W3 ⟨A3, c3, vs, he, hm, r3, v3, hb3⟩
      subst he
      have HI3 := Lib.hid (HI2.out.next hb3)
      have HV3 := Lib.hid (And.intro r3 v3)
      have HM := Lib.hid hm
      clear hm r3 v3 hb3
      go_wp2_with fail
      refine (HRD.out _ A c HI3.out.r).mono ?_
      rintro e W4 ⟨A4, c4, ws, he, hm4, r4, v4, hb4⟩
      subst he
      have HI4 := Lib.hid (HI3.out.next hb4)
      have HV4 := Lib.hid (And.intro (HV3.out.1.below' hb4) (fun x hx => ((HV3.out.2 x hx).below hb4).mono hb4.size))
      have hvl0 : vs.length ≤ 24 ∨ vs.length ≤ maxLen := .inr (by
        have h1 := congrArg List.length HM.out
        have h2 := HR.out
        rw [h2, List.length_map] at h1
        have h3 := decP_len l s
        unfold maxLen
        omega)
      have HSV := Lib.hid (SameValues_same A3 A4 c3 c4 vs ws W4 (by
        rcases hvl0 with h | h
        · unfold maxLen; omega
        · exact h) (HM.out.trans hm4.symm) HV4.out.1 r4 HV4.out.2 v4)
      clear hm4 r4 v4 hb4 hvl0
      go_wp2_with fail
      refine HSV.out.mono ?_
      rintro e W5 ⟨rfl, hb5⟩
      have HI5 := Lib.hid (HI4.out.next hb5)
      have HV5 := Lib.hid (And.intro (HV4.out.1.below' hb5) (fun x hx => ((HV4.out.2 x hx).below hb5).mono hb5.size))
      clear hb5
      by_cases he : R.2.2 = 0
      · have he' : (R.2.2 != 0) = false := by simp [he]
        obtain ⟨q1, q2, q3⟩ := dec_enc (l := l) (s := s) (vs := vs) (by rw [← HR.out]; exact he) (by rw [← HR.out]; exact HM.out)
        rw [← HR.out] at q2 q3
        have hsz : ∀ x ∈ vs, x.ns.length ≤ 1000000 := fun x hx => by
          obtain ⟨o1, o2, o3⟩ := okL_enc q1
          obtain ⟨j, hj, rfl⟩ := List.getElem_of_mem hx
          have h9 := (okL_at l _ o3).2 j (by omega) (by simpa using hj)
          rw [List.getElem_map] at h9
          obtain ⟨z0, z1, z2, z3⟩ := fldE_zero h9.1
          obtain ⟨y1, y2, y3, y4⟩ := valE_zero (show valE _ _ _ _ _ = 0 from h9.2)
          have hh := (form_of y1).2.2
          have hb := (fld_bd h9.1).2
          rcases hh with hh | hh
          · have := (y4 (by unfold opn; rw [hh]; rfl)).2
            show vs[j].ns.length ≤ 1000000
            have e9 : (dvOf vs[j]).ns = vs[j].ns := rfl
            rw [e9] at this
            omega
          · have e9 : (dvOf vs[j]).ns = vs[j].ns := rfl
            rw [e9] at hh
            rw [hh]; exact Nat.zero_le _
        have hvl : vs.length ≤ 1000 := by have := (okL_enc q1).2.1; omega
        have HQ1 := Lib.hid q1
        have HQ2 := Lib.hid q2
        have HE0 := Lib.hid he
        have HSZ := Lib.hid hsz
        clear q1 q2 he hsz
        go_wp2_with fail
        refine (CopyLay_rd A c l _ hk HI5.out.r).mono ?_
        rintro e W6 ⟨A5, c5, rfl, r5, hb6⟩
        have HI6 := Lib.hid (HI5.out.next hb6)
        have HR5 := Lib.hid r5
        have HV6 := Lib.hid (And.intro (HV5.out.1.below' hb6) (fun x hx => ((HV5.out.2 x hx).below hb6).mono hb6.size))
        clear hb6 r5
        go_wp2_with fail
        refine (CopyValues_any A3 c3 vs _ hvl HV6.out.1 (fun x hx => ⟨HV6.out.2 x hx, HSZ.out x hx⟩)).mono ?_
        rintro e W7 ⟨A7, c7, vs', rfl, hm, r7, v7, hb7⟩
        have HI7 := Lib.hid (HI6.out.next hb7)
        have hE := Encode_any A5 A7 c5 c7 l vs' W7 HL.out (by have := congrArg List.length hm; simp at this; unfold maxLen; omega) (HR5.out.below' hb7) r7 (fun j hj => by
          rw [List.getD_eq_getElem?_getD, List.getElem?_eq_getElem hj]; exact v7 _ (List.getElem_mem hj))
        rw [encErr_congr hm, encStr_congr hm, HQ1.out, HQ2.out] at hE
        have HE := Lib.hid hE
        clear hm r7 v7 hb7 hE
        go_wp2_with fail
        refine HE.out.mono ?_
        rintro e W8 ⟨rfl, hb8⟩
        have HI8 := Lib.hid (HI7.out.next hb8)
        clear hb8
        have q4 : (R.2.1 : Int) ≤ s.size := by omega
        go_wp2_with fail
        go_ret
        exact ⟨rfl, HI8.out.b⟩
      · have he' : (R.2.2 != 0) = true := by simp [he]
        clear he
        go_wp2_with fail
        go_ret
        exact ⟨rfl, HI5.out.b⟩
    · have h5' : decide ((s.size : Int) > 500) = true := by simp; omega
      go_enter Tryd.func4, Tryd.ntmps4
      go_wp2_with (first
        | (go_at_call 5; refine (awake_any _).mono ?_; rintro e W1 ⟨rfl, hb1⟩; have HI1 := Lib.hid (HI.out.next hb1); clear hb1)
        | (go_at_call 6; refine (HFW.out _).mono ?_; rintro e w' ⟨rfl, rfl⟩))
      go_ret
      exact ⟨rfl, HI1.out.b⟩
end Go.Proofs.YtiomfkgbaemmkaaDoor
