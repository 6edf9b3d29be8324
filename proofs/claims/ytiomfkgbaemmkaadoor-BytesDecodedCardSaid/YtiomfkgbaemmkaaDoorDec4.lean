/-
  Chapter 1: the reference's bytes of values: fields, all fields; comparisons of values.
-/
import Derived.Test.YtiomfkgbaemmkaaDoorDec3
namespace Go.Proofs.YtiomfkgbaemmkaaDoor
set_option linter.unusedVariables false
set_option linter.unusedSimpArgs false
open Go.RowKit Go.Sort

set_option maxRecDepth 100000 in
set_option maxHeartbeats 1000000 in
theorem refField3 (z : Int) (A : Option Addr) (c : Nat) (ns : List Int) (w : World) (hn : ns.length ≤ 127) (hx : ∀ x ∈ ns, 0 ≤ x ∧ x ≤ 65535) (hr : Rd w w.heap.size A (ns.map (.int .i64))) :
    Calls Tryd.prog 30 #[.agg #[.int .i64 3, .int .i64 z], .agg #[.int .i64 0, .string ⟨#[]⟩, .slice A ns.length c]] w fun e w' => e = .returned (.string (bs (lit ns.length 1 ++ ns.flatMap (fun x => lit x 2)))) ∧ Below w.heap.size w w' := by
  have hb0 : Below w.heap.size w ((w.alloc (Obj.cells #[.int .i64 3, .int .i64 z] 44)).alloc (Obj.cells #[.int .i64 0, .string ⟨#[]⟩, .slice A ns.length c] 47)) := by (repeat (first | assumption | exact Below.refl _ _ | refine bel_drewN ?_ _ | refine bel_alloc ?_ _ | refine bel_trans ?_ (by assumption) | refine Below.trans ?_ (by assumption)))
  have HX := Lib.hid hx
  have HB0 := Lib.hid hb0
  clear hx hb0
  go_enter Tryd.func30, Tryd.ntmps30
  go_wp2_with (go_at_call 54; refine (Little_any _ 1 (by omega) (by omega) (by omega) _).mono ?_; rintro e W1 ⟨rfl, hbW1⟩; obtain ⟨hcW1, hfW1⟩ := bcell hbW1)
  have hb1 := bel_trans HB0.out hbW1
  have hbx : W1.cell? ⟨w.heap.size + 1, 2, none⟩ = some (.slice A ns.length c) := by
    rw [hcW1 (w.heap.size + 1) 2 (by simp)]; simp
  have HBX := Lib.hid hbx
  clear hbW1 hcW1 hfW1 hbx
  go_loopw [5, 6] (fun s i wr => ∃ k : Nat, k ≤ ns.length ∧ i = .int .i64 k ∧ Below w.heap.size w wr ∧ wr.cell? ⟨w.heap.size + 1, 2, none⟩ = some (.slice A ns.length c) ∧ ∃ S : ByteArray, s = .string S ∧ S.size ≤ 1 + 2 * k ∧ S = bs (lit ns.length 1 ++ (ns.take k).flatMap (fun x => lit x 2))) (fun _ i _ => ns.length - (intOf i).toNat)
  case atStart => exact ⟨0, Nat.zero_le _, rfl, hb1, HBX.out, _, rfl, Nat.le_refl _, by simp⟩
  case round =>
    obtain ⟨k, hk, rfl, hb, hbx, S, rfl, hS, hSe⟩ := hrel
    have HSE := Lib.hid hSe
    clear hSe
    have hbl := block_lt_of_cell hbx
    dsimp only at hbl
    by_cases hlt : k < ns.length
    · obtain ⟨b, o, rfl, hB, hc⟩ := (hr.below hb).opened (by simp; omega)
      have c0 := hc k (.int .i64 ns[k]) (by simp [hlt])
      have htk : ns.take (k + 1) = ns.take k ++ [ns[k]] := List.take_succ_eq_append_getElem hlt
      obtain ⟨hx0, hx1⟩ := HX.out ns[k] (List.getElem_mem hlt)
      obtain ⟨x, hx⟩ : ∃ x, x = ns[k] := ⟨_, rfl⟩
      rw [← hx] at c0 htk hx0 hx1
      have HT := Lib.hid htk
      have q2 : (bs (lit x 2)).size = 2 := by rw [bs_size, lit_length]
      clear htk hx hc
      go_wp2_with (go_at_call 54; refine (Little_any _ 2 (by omega) (by omega) (by omega) _).mono ?_; rintro e W2 ⟨rfl, hbW2⟩; obtain ⟨hcW2, hfW2⟩ := bcell hbW2)
      have hbx2 : W2.cell? ⟨w.heap.size + 1, 2, none⟩ = some (.slice (some ⟨b, o, none⟩) ns.length c) := (hcW2 _ _ hbl).trans hbx
      have HBX2 := Lib.hid hbx2
      clear hbx2
      go_roundw
      case rel => exact ⟨k + 1, by omega, by go_num, bel_trans hb hbW2, HBX2.out, _, rfl, by rw [ByteArray.size_append]; omega, by rw [HT.out, List.flatMap_append, HSE.out]; apply bl_inj; rw [bl_append]; simp [bl_bs]⟩
      case measure => simp [intOf]; omega
    · obtain rfl : k = ns.length := by omega
      rw [List.take_length] at HSE
      go_wp2
      go_ret
      exact ⟨retS HSE.out, hb⟩

set_option maxRecDepth 100000 in
theorem refField_any (k z n : Int) (s : ByteArray) (A : Option Addr) (c : Nat) (ns : List Int) (w : World) (hz : fldE k z = 0) (hs : s.size ≤ maxLen) (h : valE k z n s ns = 0) (hr : Rd w w.heap.size A (ns.map (.int .i64))) :
    Calls Tryd.prog 30 #[.agg #[.int .i64 k, .int .i64 z], .agg #[.int .i64 n, .string s, .slice A ns.length c]] w fun e w' => e = .returned (.string (bs (fieldL k z n s ns))) ∧ Below w.heap.size w w' := by
  obtain ⟨h0, h4, z1, z2⟩ := fldE_zero hz
  obtain ⟨hf, hfit, hv1, hv2⟩ := valE_zero h
  obtain ⟨f1, f2, f3⟩ := form_of hf
  unfold maxLen at hs
  have : k = 0 ∨ k = 1 ∨ k = 2 ∨ k = 3 ∨ k = 4 := by omega
  rcases this with rfl | rfl | rfl | rfl | rfl
  · replace f2 : s = ⟨#[]⟩ := by rcases f2 with h | h | h; omega; omega; exact h
    replace f3 : ns = [] := by rcases f3 with h | h; omega; exact h
    replace z1 : 1 ≤ z := z1
    replace z2 : z ≤ 6 := z2
    have hi : inB n 0 (256 ^ z.toNat - 1) = true := by
      simp only [fitsB, fits0, Bool.and_eq_true] at hfit
      simpa using hfit.1
    rw [inB_true] at hi
    have hp := pow256_le z.toNat (by omega)
    obtain ⟨hi0, hi1⟩ := hi
    subst f2 f3
    obtain ⟨zc, rfl⟩ := Int.eq_ofNat_of_zero_le (show 0 ≤ z by omega)
    clear hz h hf hfit hv1 hv2 f1 hr
    go_enter Tryd.func30, Tryd.ntmps30
    go_wp2_with (go_at_call 54; refine (Little_any n zc (by omega) (by omega) (by omega) _).mono ?_; rintro e W1 ⟨rfl, hbW1⟩; obtain ⟨hcW1, hfW1⟩ := bcell hbW1)
    go_ret
    exact ⟨rfl, bel_trans (by (repeat (first | assumption | exact Below.refl _ _ | refine bel_drewN ?_ _ | refine bel_alloc ?_ _ | refine bel_trans ?_ (by assumption) | refine Below.trans ?_ (by assumption)))) hbW1⟩
  · replace f1 : n = 0 := by rcases f1 with h | h; omega; exact h
    replace f3 : ns = [] := by rcases f3 with h | h; omega; exact h
    subst f1 f3
    clear hz h hf hfit hv1 hv2 f2 hr
    go_enter Tryd.func30, Tryd.ntmps30
    go_wp2
    go_ret
    exact ⟨rfl, by (repeat (first | assumption | exact Below.refl _ _ | refine bel_drewN ?_ _ | refine bel_alloc ?_ _ | refine bel_trans ?_ (by assumption) | refine Below.trans ?_ (by assumption)))⟩
  · replace f1 : n = 0 := by rcases f1 with h | h; omega; exact h
    replace f3 : ns = [] := by rcases f3 with h | h; omega; exact h
    subst f1 f3
    replace z2 : z ≤ 255 := z2
    have hs3 := (hv2 rfl).1
    have q2 : (bs (lit (s.size : Int) 1)).size = 1 := by rw [bs_size, lit_length]
    clear hz h hf hfit hv1 hv2 f2 hr
    go_enter Tryd.func30, Tryd.ntmps30
    go_wp2
    (refine wp_region_quiet_below (by kernel_rfl) (by kernel_rfl) ?_; (repeat (go_big_quiet_step ((first | (go_at_call 54; exact Calls.regrown_of (Little_any _ 1 (by omega) (by omega) (by omega) _)))))); (with_reducible refine wpQuiet_nil ?_); intro W1 hreg; have hbW1 := below_of_reg hreg; clear hreg; obtain ⟨hcW1, hfW1⟩ := bcell hbW1)
    go_wp2
    go_ret
    exact ⟨rfl, bel_trans (by (repeat (first | assumption | exact Below.refl _ _ | refine bel_drewN ?_ _ | refine bel_alloc ?_ _ | refine bel_trans ?_ (by assumption) | refine Below.trans ?_ (by assumption)))) hbW1⟩
  · replace f1 : n = 0 := by rcases f1 with h | h; omega; exact h
    replace f2 : s = ⟨#[]⟩ := by rcases f2 with h | h | h; omega; omega; exact h
    replace z2 : z ≤ 127 := z2
    have hs := (hv2 rfl).2
    have hall : allB ns = true := by
      simp only [fitsB, Bool.and_eq_true] at hfit
      exact hfit.2
    subst f1 f2
    exact refField3 z A c ns w (by omega) (fun x hx => by
      have := List.all_eq_true.1 hall x hx
      rw [inB_true] at this; exact this) hr
  · replace f1 : n = 0 := by rcases f1 with h | h; omega; exact h
    replace f2 : s = ⟨#[]⟩ := by rcases f2 with h | h | h; omega; omega; exact h
    replace f3 : ns = [] := by rcases f3 with h | h; omega; exact h
    replace z1 : 1 ≤ z := z1
    replace z2 : z ≤ 64 := z2
    subst f1 f2 f3
    obtain ⟨zc, rfl⟩ := Int.eq_ofNat_of_zero_le (show 0 ≤ z by omega)
    clear hz h hf hfit hv1 hv2 hr
    go_enter Tryd.func30, Tryd.ntmps30
    go_wp2_with (go_at_call 55; refine (Zeros_any zc _ (by omega)).mono ?_; rintro e W1 ⟨rfl, hbW1⟩; obtain ⟨hcW1, hfW1⟩ := bcell hbW1)
    go_ret
    exact ⟨rfl, bel_trans (by (repeat (first | assumption | exact Below.refl _ _ | refine bel_drewN ?_ _ | refine bel_alloc ?_ _ | refine bel_trans ?_ (by assumption) | refine Below.trans ?_ (by assumption)))) hbW1⟩

set_option maxRecDepth 100000 in
set_option maxHeartbeats 2000000 in
theorem refEncode_any (A A2 : Option Addr) (c c2 : Nat) (l : List Fld) (vs : List VC) (w : World) (hlen : l.length ≤ maxLen) (hvl : vs.length ≤ maxLen) (hr : Rd w w.heap.size A (fldsV l)) (hr2 : Rd w w.heap.size A2 (vcsV vs)) (hv : ∀ x ∈ vs, VOk w w.heap.size x) :
    Calls Tryd.prog 10 #[.slice A l.length c, .slice A2 vs.length c2] w fun e w' => e = .returned (.tuple #[.string (encStr l vs), .int .i64 (encErr l vs)]) ∧ Below w.heap.size w w' := by
  have hlen' := hlen
  unfold maxLen at hlen' hvl
  by_cases h1 : (layP l).2 = 0
  · by_cases h2 : vs.length = l.length
    · have e : encErr l vs = (eachE (encE vs) 0 l).2 := by simp [encErr, h1, h2]
      have h1' : ((layP l).2 != 0) = false := by simp [h1]
      have h2' : ((vs.length : Int) != l.length) = false := by simp [h2]
      obtain ⟨hl24, hfz⟩ := layP_zero h1
      have HR := Lib.hid hr
      have HR2 := Lib.hid hr2
      have HV := Lib.hid hv
      have H2 := Lib.hid h2
      have HL := Lib.hid hlen
      have HFZ := Lib.hid hfz
      have HE := Lib.hid e
      clear hr hr2 hv h2 h1 hlen hfz e
      go_enter Tryd.func10, Tryd.ntmps10
      go_wp2_with (go_at_call 28; refine (LayoutErr_any A c l _ HL.out HR.out).mono ?_; rintro e w' ⟨rfl, rfl⟩)
      go_loopw [7, 8] (fun s i wr => ∃ k : Nat, k ≤ l.length ∧ i = .int .i64 k ∧ Below w.heap.size w wr ∧ s = .string (bs (encAt l vs k)) ∧ eachE (encE vs) 0 l = eachE (encE vs) k (l.drop k) ∧ (encAt l vs k).length ≤ 256 * k) (fun _ i _ => l.length - (intOf i).toNat)
      case atStart => exact ⟨0, Nat.zero_le _, rfl, Below.refl _ _, rfl, rfl, Nat.le_refl _⟩
      case round =>
        obtain ⟨k, hk, rfl, hb, rfl, hf, hal⟩ := hrel
        by_cases hlt : k < l.length
        · have hkv : k < vs.length := by rw [H2.out]; exact hlt
          obtain ⟨b, o, rfl, hB, hc⟩ := (HR.out.below hb).opened (by rw [fldsV_length]; omega)
          obtain ⟨g0, g1⟩ := fldsV_get l k hlt
          have c0 : wr.cell? ⟨b, o + k * 2, none⟩ = _ := hc _ _ g0
          have c1 : wr.cell? ⟨b, o + k * 2 + 1, none⟩ = _ := hc _ _ g1
          obtain ⟨b', o', rfl, hB', hc'⟩ := (HR2.out.below hb).opened (by rw [vcsV_length]; omega)
          obtain ⟨g0', g1', g2'⟩ := vcsV_get vs k hkv
          have d0 : wr.cell? ⟨b', o' + k * 3, none⟩ = _ := hc' _ _ g0'
          have d1 : wr.cell? ⟨b', o' + k * 3 + 1, none⟩ = _ := hc' _ _ g1'
          have d2 : wr.cell? ⟨b', o' + k * 3 + 1 + 1, none⟩ = _ := hc' _ _ g2'
          have hfe := HFZ.out k hlt
          obtain ⟨hs, hn, hrd⟩ := HV.out vs[k] (List.getElem_mem hkv)
          have hnext := encAt_succ l vs k
          have eg : l.getD k (0, 0) = l[k] := by rw [List.getD_eq_getElem?_getD, List.getElem?_eq_getElem hlt]; rfl
          have ev : vs.getD k vc0 = vs[k] := by rw [List.getD_eq_getElem?_getD, List.getElem?_eq_getElem hkv]; rfl
          have hd : l.drop k = l[k] :: l.drop (k + 1) := List.drop_eq_getElem_cons hlt
          have hee : encE vs k l[k] = valE l[k].1 l[k].2 vs[k].n vs[k].s vs[k].ns := by unfold encE; rw [ev]
          rw [hd, eachE, hee] at hf
          rw [eg, ev] at hnext
          have hrd2 := (hrd.below hb).mono hb.size
          obtain ⟨fk, z, hfk⟩ : ∃ x y, ((x, y) : Fld) = l[k] := ⟨_, _, rfl⟩
          obtain ⟨⟨n, s, A', c', ns⟩, hx⟩ : ∃ v, v = vs[k] := ⟨_, rfl⟩
          rw [← hfk] at c0 c1 hfe hnext hf
          rw [← hx] at d0 d1 d2 hs hn hrd2 hnext hf
          dsimp only at c0 c1 d0 d1 d2 hfe hnext hf hs hn hrd2
          have HN := Lib.hid hnext
          have HF := Lib.hid hf
          have HS := Lib.hid hs
          have HNN := Lib.hid hn
          have HRD := Lib.hid hrd2
          have HFE := Lib.hid hfe
          have hbs := hb.size
          have hb1 : b < wr.heap.size := by omega
          have hb2 : b' < wr.heap.size := by omega
          clear hnext hf hfe hee hd eg ev hx hfk g0 g1 g0' g1' g2' hc hc' hs hn hrd hrd2
          by_cases hve : valE fk z n s ns = 0
          · have HVE := Lib.hid hve
            have hv' : (valE fk z n s ns != 0) = false := by rw [hve]; rfl
            have hfl := fieldL_length HFE.out hve
            clear hve
            go_wp2
            (refine wp_region_quiet_below (by kernel_rfl) (by kernel_rfl) ?_; (repeat (go_big_quiet_step ((first | (go_at_call 29; exact Calls.regrown_of (refFieldErr_any fk z n s A' c' ns _ HFE.out HS.out HNN.out (Rd.reg HRD.out (Below.refl _ _)))))))); (with_reducible refine wpQuiet_nil ?_); intro W1 hreg; have hbW1 := below_of_reg hreg; clear hreg; obtain ⟨hcW1, hfW1⟩ := bcell hbW1)
            go_wp2
            have hr1 := HRD.out.below' hbW1
            have HR1 := Lib.hid hr1
            clear hr1
            have hbs1 := hbW1.size
            have hb3 : b < W1.heap.size := by omega
            have hb4 : b' < W1.heap.size := by omega
            have q3 : (bs (fieldL fk z n s ns)).size ≤ 256 := by rw [bs_size]; exact hfl
            have q4 : (bs (encAt l vs k)).size ≤ 256 * k := by rw [bs_size]; exact hal
            (refine wp_region_quiet_below (by kernel_rfl) (by kernel_rfl) ?_; (repeat (go_big_quiet_step ((first | (go_at_call 30; exact Calls.regrown_of (refField_any fk z n s A' c' ns _ HFE.out HS.out HVE.out (Rd.reg HR1.out (Below.refl _ _)))))))); (with_reducible refine wpQuiet_nil ?_); intro W2 hreg; have hbW2 := below_of_reg hreg; clear hreg; obtain ⟨hcW2, hfW2⟩ := bcell hbW2)
            go_wp2
            go_roundw
            case rel => exact ⟨k + 1, by omega, by go_num, bel_trans (bel_trans hb hbW1) hbW2, by rw [HN.out]; rfl, by rw [HF.out, if_pos HVE.out], by rw [HN.out, List.length_append]; omega⟩
            case measure => simp [intOf]; omega
          · have HVE := Lib.hid hve
            have hv' : (valE fk z n s ns != 0) = true := by simp [hve]
            clear hve
            go_wp2
            (refine wp_region_quiet_below (by kernel_rfl) (by kernel_rfl) ?_; (repeat (go_big_quiet_step ((first | (go_at_call 29; exact Calls.regrown_of (refFieldErr_any fk z n s A' c' ns _ HFE.out HS.out HNN.out (Rd.reg HRD.out (Below.refl _ _)))))))); (with_reducible refine wpQuiet_nil ?_); intro W1 hreg; have hbW1 := below_of_reg hreg; clear hreg; obtain ⟨hcW1, hfW1⟩ := bcell hbW1)
            go_wp2
            go_ret2
            have e3 : encErr l vs = valE fk z n s ns := by rw [HE.out, HF.out, if_neg HVE.out]
            exact ⟨retSI (by unfold encStr; rw [e3, if_neg HVE.out]) e3.symm, bel_trans hb hbW1⟩
        · obtain rfl : k = l.length := by omega
          rw [List.drop_length] at hf
          have HF := Lib.hid hf
          clear hf
          go_wp2
          go_ret2
          have e3 : encErr l vs = 0 := by rw [HE.out, HF.out]; rfl
          exact ⟨retSI (by unfold encStr; rw [e3, if_pos rfl]) e3.symm, hb⟩
    · have e : encErr l vs = 10 := by simp [encErr, h1, h2]
      have e1 : encStr l vs = ⟨#[]⟩ := by unfold encStr; rw [e, if_neg (by decide)]
      have h1' : ((layP l).2 != 0) = false := by simp [h1]
      have h2' : ((vs.length : Int) != l.length) = true := by simp; omega
      have E := Lib.hid e
      have E1 := Lib.hid e1
      have HR := Lib.hid hr
      have HL := Lib.hid hlen
      clear e e1 hr h2 h1 hlen
      go_enter Tryd.func10, Tryd.ntmps10
      go_wp2_with (go_at_call 28; refine (LayoutErr_any A c l _ HL.out HR.out).mono ?_; rintro e w' ⟨rfl, rfl⟩)
      go_ret2
      exact ⟨retSI E1.out.symm E.out.symm, Below.refl _ _⟩
  · have e : encErr l vs = (layP l).2 := by simp [encErr, h1]
    have e1 : encStr l vs = ⟨#[]⟩ := by unfold encStr; rw [e, if_neg h1]
    have h1' : ((layP l).2 != 0) = true := by simp [h1]
    have E := Lib.hid e
    have E1 := Lib.hid e1
    have HR := Lib.hid hr
    have HL := Lib.hid hlen
    clear e e1 hr h1 hlen
    go_enter Tryd.func10, Tryd.ntmps10
    go_wp2_with (go_at_call 28; refine (LayoutErr_any A c l _ HL.out HR.out).mono ?_; rintro e w' ⟨rfl, rfl⟩)
    go_ret2
    exact ⟨retSI E1.out.symm E.out.symm, Below.refl _ _⟩
end Go.Proofs.YtiomfkgbaemmkaaDoor
