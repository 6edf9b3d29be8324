/-
  EncodeFields: where nothing is wrong, the bytes.
-/
import Derived.Test.YtiomfkgbaemmkaaEnc2
namespace Go.Proofs.Ytiomfkgbaemmkaa
set_option linter.unusedVariables false
set_option linter.unusedSimpArgs false
open Go.RowKit Go.Sort

theorem encAt_length {l : List Fld} {vs : List VC} (hz : ∀ j (h : j < l.length), fldE l[j].1 l[j].2 = 0) (he : (eachE (encE vs) 0 l).2 = 0) : ∀ k, k ≤ l.length → (encAt l vs k).length ≤ 256 * k
  | 0, _ => by simp [encAt]
  | k + 1, h => by
    have h1 := encAt_length hz he k (by omega)
    have h2 := eachE_zero (encE vs) l 0 he k (by omega)
    have h3 := hz k (by omega)
    rw [encAt_succ, List.length_append]
    have e : l.getD k (0, 0) = l[k] := by rw [List.getD_eq_getElem?_getD, List.getElem?_eq_getElem (by omega)]; rfl
    rw [e]
    rw [Nat.zero_add] at h2
    have := fieldL_length h3 h2
    omega

/-- how the world stands at a round's head -/
def EncIn (w : World) (b0 : Nat) (V : Value) (pre : List UInt8) (wr : World) : Prop :=
  Below w.heap.size w wr ∧ IsB w.heap.size b0 pre wr ∧ wr.heap[w.heap.size]? = some (.cells #[V] 70 (0, 0)) ∧ b0 ≠ w.heap.size
theorem EncIn.box {w : World} {b0 : Nat} {V : Value} {pre : List UInt8} {wr : World} (h : EncIn w b0 V pre wr) : wr.cell? ⟨w.heap.size, 0, none⟩ = some V := by
  rw [Lib.cell_of_heap h.2.2.1]; rfl
theorem EncIn.grow {w : World} {b0 : Nat} {V : Value} {pre : List UInt8} {wr w' : World} (h : EncIn w b0 V pre wr) (hb : Below wr.heap.size wr w') : EncIn w b0 V pre w' :=
  ⟨bel_trans h.1 hb, h.2.1.below hb, (hb.block _ (Array.getElem?_eq_some_iff.1 h.2.2.1).1).trans h.2.2.1, h.2.2.2⟩
theorem EncIn.wrote {w : World} {b0 : Nat} {V : Value} {pre pre' : List UInt8} {wr w' : World} (h : EncIn w b0 V pre wr) (h1 : BAt w.heap.size b0 pre' w') (h2 : Below w.heap.size wr w') (h3 : Others b0 wr w') : EncIn w b0 V pre' w' :=
  ⟨h.1.trans h2, .inr h1, h3 _ _ h.2.2.1 (fun e => h.2.2.2 e.symm) (by intro c fz e; injection e with _ e _; exact absurd e (by decide)), h.2.2.2⟩
theorem EncIn.write {w : World} {b0 : Nat} {V : Value} {pre : List UInt8} {wr : World} (h : EncIn w b0 V pre wr) (s : ByteArray) (hs : pre.length + s.size ≤ 1000000) :
    Calls Try.prog 72 #[.pointer (some ⟨b0, 0, none⟩), .string s] wr fun e w' => e = .returned (.tuple #[.int .i64 s.size, .nilIface]) ∧ EncIn w b0 V (pre ++ bl s) w' ∧ Others b0 wr w' ∧ Below w.heap.size wr w' :=
  (WriteString_any w.heap.size b0 pre s wr h.2.1 (by omega) h.1.size).mono fun _ _ ⟨h1, h2, h3, h4⟩ => ⟨h1, h.wrote h2 h3 h4, h4, h3⟩
theorem EncIn.lt {w : World} {b0 : Nat} {V : Value} {pre : List UInt8} {wr : World} (h : EncIn w b0 V pre wr) : b0 < wr.heap.size := h.2.1.elim (fun x => x.lt) (fun x => x.lt)
theorem Others.last {b0 : Nat} {wr W' : World} {F : Obj} {cs : Array Value} {T : TypeId} (h : Others b0 ((wr.alloc F).alloc (.cells cs T)) W') (hb : b0 < wr.heap.size) (hT : T ≠ 5) (j : Nat) : W'.cell? ⟨wr.heap.size + 1, j, none⟩ = cs[j]? := by
  have h1 : ((wr.alloc F).alloc (.cells cs T)).heap[wr.heap.size + 1]? = some (.cells cs T (0, 0)) := by
    have := heap_alloc_new (wr.alloc F) (.cells cs T)
    simpa using this
  have h2 := h _ _ h1 (by omega) (by intro c fz e; injection e with _ e _; exact absurd e hT)
  rw [Lib.cell_of_heap h2]
theorem EncIn.writeByteN {w : World} {b0 : Nat} {V : Value} {pre : List UInt8} {wr : World} (h : EncIn w b0 V pre wr) (m : Int) (h0 : 0 ≤ m) (h1 : m < 256) (hs : pre.length ≤ 1000000) :
    Calls Try.prog 73 #[.pointer (some ⟨b0, 0, none⟩), .int .u8 m] wr fun e w' => e = .returned .nilIface ∧ EncIn w b0 V (pre ++ [UInt8.ofNat m.toNat]) w' ∧ Others b0 wr w' ∧ Below w.heap.size wr w' := by
  have e : Value.int .u8 m = byteV (UInt8.ofNat m.toNat) := by
    have h2 := byteV_mod m
    rw [Int.emod_eq_of_lt h0 h1] at h2
    exact h2.symm
  rw [e]
  exact (WriteByte_any w.heap.size b0 pre _ wr h.2.1 (by omega) h.1.size).mono fun _ _ ⟨h1, h2, h3, h4⟩ => ⟨h1, h.wrote h2 h3 h4, h4, h3⟩
theorem EncIn.writeByte {w : World} {b0 : Nat} {V : Value} {pre : List UInt8} {wr : World} (h : EncIn w b0 V pre wr) (c : UInt8) (hs : pre.length ≤ 1000000) :
    Calls Try.prog 73 #[.pointer (some ⟨b0, 0, none⟩), byteV c] wr fun e w' => e = .returned .nilIface ∧ EncIn w b0 V (pre ++ [c]) w' ∧ Others b0 wr w' ∧ Below w.heap.size wr w' :=
  (WriteByte_any w.heap.size b0 pre c wr h.2.1 (by omega) h.1.size).mono fun _ _ ⟨h1, h2, h3, h4⟩ => ⟨h1, h.wrote h2 h3 h4, h4, h3⟩
/-- a block that is no row of bytes and not the builder's keeps its cells -/
theorem Others.cells {b0 : Nat} {w w' : World} (h : Others b0 w w') {g : Nat} {cs : Array Value} {T : TypeId} (hg : w.heap[g]? = some (.cells cs T (0, 0))) (hne : g ≠ b0) (hT : T ≠ 5) : w'.heap[g]? = some (.cells cs T (0, 0)) :=
  h _ _ hg hne (by intro c fz e; injection e with _ e _; exact absurd e hT)
theorem lit1 (n : Nat) : byteV (UInt8.ofNat ((n : Int) % 256).toNat) = .int .u8 ((n : Int) % 256) := byteV_mod n
theorem lit_one (n : Int) : lit n 1 = [UInt8.ofNat (n % 256).toNat] := rfl

set_option maxRecDepth 100000 in
set_option maxHeartbeats 8000000 in
theorem Encode_ok (A A2 : Option Addr) (c c2 : Nat) (l : List Fld) (vs : List VC) (w : World) (hr : Rd w w.heap.size A (fldsV l)) (hr2 : Rd w w.heap.size A2 (vcsV vs)) (hv : ∀ j, j < vs.length → VOk w w.heap.size (vs.getD j vc0))
    (h : (layP l).2 = 0) (hvl : vs.length = l.length) (he : (eachE (encE vs) 0 l).2 = 0) :
    Calls Try.prog 41 #[.slice A l.length c, .slice A2 vs.length c2] w fun e w' => e = .returned (.tuple #[.string (bs (encAt l vs l.length)), .int .i64 0]) ∧ Below w.heap.size w w' := by
  have h1 : ((layP l).2 != 0) = false := by simp [h]
  have h2 : ((vs.length : Int) != l.length) = false := by simp [hvl]
  have h3 : ((eachE (encE vs) 0 l).2 != 0) = false := by simp [he]
  obtain ⟨hlen, hfz⟩ := layP_zero h
  have hr1 := fun o => hr.below' (bel_alloc (Below.refl w.heap.size w) o)
  have HR := Lib.hid hr1
  have hE : ∀ W, Below (w.alloc (.cells #[.slice A2 vs.length c2] 70)).heap.size (w.alloc (.cells #[.slice A2 vs.length c2] 70)) W → Calls Try.prog 50 #[.slice A l.length c, .func (.func 70) #[] #[.pointer (some ⟨w.heap.size, 0, none⟩)]] W fun e w' =>
      e = .returned (.tuple #[.int .i64 (eachE (encE vs) 0 l).1, .int .i64 (eachE (encE vs) 0 l).2]) ∧ Below W.heap.size W w' := fun W hW => by
    have hb := bel_trans (bel_alloc (Below.refl w.heap.size w) _) hW
    exact eachEnc_any A A2 c c2 w.heap.size l vs W (by omega) hvl ((hW.cell (p := ⟨w.heap.size, 0, none⟩) (by simp)).trans (by simp)) hfz (hr.below' hb) (hr2.below' hb) (fun j hj => ((hv j hj).below hb).mono hb.size)
  have HE := Lib.hid hE
  have hmf : ∀ (fn : Fn) (first cap : Array Value) (w : World), (Instr.makeFunc fn first cap).run Try.prog w = .ok (.func fn first cap) w := fun _ _ _ _ => rfl
  have hal := encAt_length hfz he
  have hvz := eachE_zero (encE vs) l 0 he
  have HV := Lib.hid hv
  have HR1 := Lib.hid hr
  have HR2 := Lib.hid hr2
  have HVL := Lib.hid hvl
  have HFZ := Lib.hid hfz
  have HAL := Lib.hid hal
  have HVZ := Lib.hid hvz
  clear h hr hr1 hr2 hv hfz he hE hvl hal hvz
  go_enter Try.func41, Try.ntmps41
  go_wp2_with (first | (go_at_call 17; refine (CheckLayout_any A c l _ (by unfold maxLen; omega) (HR.out _)).mono ?_; rintro e W1 ⟨rfl, hbW1⟩; obtain ⟨hcW1, hfW1⟩ := bcell hbW1) | (go_at_call 50; refine (HE.out _ (by assumption)).mono ?_; rintro e W2 ⟨rfl, hbW2⟩))
  have hin0 : EncIn w W2.heap.size (.slice A2 vs.length c2) [] (W2.alloc (Obj.cells #[.pointer none, .slice none 0 0] 96)) := by
    have hb12 := bel_trans hbW1 hbW2
    refine ⟨bel_alloc (bel_trans (bel_alloc (Below.refl _ _) _) hb12) _, ?_, ?_, ?_⟩
    · have h9 : w.heap.size ≤ W2.heap.size := by have := hb12.size; simp at this; omega
      have h8 := Lib.fresh_isBuilder 96 5 W2
      rcases h8 with h8 | h8
      · obtain ⟨q1, q2, q3, q4, q5⟩ := h8
        exact .inl ⟨h9, q2, q3, ownsRow_mono q4 h9, q5⟩
      · obtain ⟨q1, q2, q3, q4, q5⟩ := h8
        exact .inr ⟨h9, q2, q3, ownsRow_mono q4 h9, q5⟩
    · have hlt : w.heap.size < (w.alloc (.cells #[.slice A2 vs.length c2] 70)).heap.size := by simp
      have hlt2 : w.heap.size < W2.heap.size := by have := hb12.size; simp at this; omega
      rw [Below.heap_alloc _ _ _ hlt2, hb12.block _ hlt]
      exact heap_alloc_new w _
    · have := hb12.size; simp at this; omega
  have HIN := Lib.hid hin0
  obtain ⟨b0, hb0⟩ : ∃ b, b = W2.heap.size := ⟨_, rfl⟩
  rw [← hb0] at hin0 ⊢
  clear hbW1 hbW2 hcW1 hfW1 HE HR HIN hb0
  go_loopw [40] (fun i wr => ∃ k : Nat, k ≤ l.length ∧ i = .int .i64 k ∧ EncIn w b0 (.slice A2 vs.length c2) (encAt l vs k) wr) (fun i _ => l.length - (intOf i).toNat)
  case atStart => exact ⟨0, Nat.zero_le _, rfl, hin0⟩
  case round =>
    obtain ⟨k, hk, rfl, hin⟩ := hrel
    clear hin0
    by_cases hlt : k < l.length
    · have hb := hin.1
      have hbs := hb.size
      have hbox := hin.box
      have hws : w.heap.size < wr.heap.size := by have := block_lt_of_cell hbox; exact this
      obtain ⟨b, o, rfl, hB, hc⟩ := (HR1.out.below hb).opened (by rw [fldsV_length]; omega)
      obtain ⟨g0, g1⟩ := fldsV_get l k hlt
      have c0 : wr.cell? ⟨b, o + k * 2, none⟩ = _ := hc _ _ g0
      have c1 : wr.cell? ⟨b, o + k * 2 + 1, none⟩ = _ := hc _ _ g1
      have hkv : k < vs.length := by rw [HVL.out]; exact hlt
      obtain ⟨b', o', rfl, hB', hc'⟩ := (HR2.out.below hb).opened (by rw [vcsV_length]; omega)
      obtain ⟨g0', g1', g2'⟩ := vcsV_get vs k hkv
      have d0 : wr.cell? ⟨b', o' + k * 3, none⟩ = _ := hc' _ _ g0'
      have d1 : wr.cell? ⟨b', o' + k * 3 + 1, none⟩ = _ := hc' _ _ g1'
      have d2 : wr.cell? ⟨b', o' + k * 3 + 1 + 1, none⟩ = _ := hc' _ _ g2'
      have hvk := HV.out k hkv
      have hve := HVZ.out k hlt
      have hfe := HFZ.out k hlt
      have hal := HAL.out k hk
      have hnext := encAt_succ l vs k
      have eg : l.getD k (0, 0) = l[k] := by rw [List.getD_eq_getElem?_getD, List.getElem?_eq_getElem hlt]; rfl
      have ev : vs.getD k vc0 = vs[k] := by rw [List.getD_eq_getElem?_getD, List.getElem?_eq_getElem hkv]; rfl
      rw [Nat.zero_add] at hve
      unfold encE at hve
      rw [eg, ev] at hnext
      rw [ev] at hvk hve
      obtain ⟨fk, z, hfk⟩ : ∃ x y, ((x, y) : Fld) = l[k] := ⟨_, _, rfl⟩
      obtain ⟨⟨n, s, A', c', ns⟩, hx⟩ : ∃ v, v = vs[k] := ⟨_, rfl⟩
      rw [← hfk] at c0 c1 hve hfe hnext
      rw [← hx] at d0 d1 d2 hvk hve hnext
      dsimp only at c0 c1 d0 d1 d2 hve hfe hvk hnext
      obtain ⟨hv1, hv2, hv3⟩ := hvk
      dsimp only at hv1 hv2 hv3
      have HV3 := Lib.hid hv3
      have HN := Lib.hid hnext
      have hflen := fieldL_length hfe hve
      obtain ⟨q0, q1, q2, q3⟩ := fldE_zero hfe
      have hval := valE_zero hve
      obtain ⟨_, _, hvs1, hvs2⟩ := hval
      have hb0l := hin.lt
      have HFE := Lib.hid hfe
      obtain ⟨pre, hpre⟩ : ∃ p, p = encAt l vs k := ⟨_, rfl⟩
      rw [← hpre] at hal hin
      have HIN := Lib.hid hin
      have HPRE := Lib.hid hpre
      unfold maxLen at hv1 hv2
      have hB1 : b < wr.heap.size := by omega
      have hB1' : b' < wr.heap.size := by omega
      clear hfk hx g0 g1 g0' g1' g2' hc hc' hv3 hnext eg ev hin hfe hve hpre
      have : fk = 0 ∨ fk = 1 ∨ fk = 2 ∨ fk = 3 ∨ fk = 4 := by omega
      rcases this with rfl | rfl | rfl | rfl | rfl
      · replace q2 : 1 ≤ z := q2
        replace q3 : z ≤ 6 := q3
        obtain ⟨zc, rfl⟩ := Int.eq_ofNat_of_zero_le (show 0 ≤ z by omega)
        go_wp2_with (first | (go_at_call 59; refine (little_any n zc (by omega) _).mono ?_; rintro e W3 ⟨rfl, hbW3⟩; obtain ⟨hcW3, hfW3⟩ := bcell hbW3) | (go_at_call 72; refine ((HIN.out.grow (by (repeat (first | assumption | exact Below.refl _ _ | refine bel_drewN ?_ _ | refine bel_alloc ?_ _ | refine bel_trans ?_ (by assumption) | refine Below.trans ?_ (by assumption))))).write _ (by rw [bs_size, lit_length]; omega)).mono ?_; rintro e W4 ⟨rfl, hin4, hoth4, hbel4⟩))
        go_roundw
        case rel => exact ⟨k + 1, by omega, by go_num, by rw [HN.out, ← HPRE.out]; exact hin4⟩
        case measure => simp [intOf]; omega
      · replace q3 : z ≤ 64 := q3
        have hsz := hvs1 rfl
        go_wp2_with (first | (go_at_call 72; refine ((HIN.out.grow (by (repeat (first | assumption | exact Below.refl _ _ | refine bel_drewN ?_ _ | refine bel_alloc ?_ _ | refine bel_trans ?_ (by assumption) | refine Below.trans ?_ (by assumption))))).write _ (by omega)).mono ?_; rintro e W4 ⟨rfl, hin4, hoth4, hbel4⟩))
        go_roundw
        case rel => exact ⟨k + 1, by omega, by go_num, by rw [HN.out, ← HPRE.out]; exact hin4⟩
        case measure => simp [intOf]; omega
      · replace q3 : z ≤ 255 := q3
        have hsz := (hvs2 rfl).1
        clear hvs1 hvs2
        go_wp2_with (first | (go_at_call 73; refine ((HIN.out.grow (by (repeat (first | assumption | exact Below.refl _ _ | refine bel_drewN ?_ _ | refine bel_alloc ?_ _ | refine bel_trans ?_ (by assumption) | refine Below.trans ?_ (by assumption))))).writeByteN _ (by omega) (by omega) (by omega)).mono ?_; rintro e W4 ⟨rfl, hin4, hoth4, hbel4⟩; have hx4 := Others.last hoth4 hb0l (by decide)) | (go_at_call 72; refine (hin4.write _ (by simp; omega)).mono ?_; rintro e W5 ⟨rfl, hin5, hoth5, hbel5⟩))
        go_roundw
        case rel =>
          refine ⟨k + 1, by omega, by go_num, ?_⟩
          have e : fieldL 2 z n s ns = [UInt8.ofNat (s.size : Int).toNat] ++ bl s := by
            show lit s.size 1 ++ bl s = _
            rw [lit_one, Int.emod_eq_of_lt (by omega) (by omega)]
          rw [HN.out, ← HPRE.out, e, ← List.append_assoc]
          exact hin5
        case measure => simp [intOf]; omega
      · replace q3 : z ≤ 127 := q3
        have hsz := (hvs2 rfl).2
        clear hvs1 hvs2
        go_wp2_with (first | (go_at_call 73; refine ((HIN.out.grow (by (repeat (first | assumption | exact Below.refl _ _ | refine bel_drewN ?_ _ | refine bel_alloc ?_ _ | refine bel_trans ?_ (by assumption) | refine Below.trans ?_ (by assumption))))).writeByteN _ (by omega) (by omega) (by omega)).mono ?_; rintro e W4 ⟨rfl, hin4, hoth4, hbel4⟩; have hx4 := Others.last hoth4 hb0l (by decide)))
        have HIN4 := Lib.hid hin4
        clear hin4 hoth4 hbel4 hx4 c0 c1 d0 d1 d2 hbox HIN
        go_loopw [83] (fun i wx => ∃ j : Nat, j ≤ ns.length ∧ i = .int .i64 j ∧ EncIn w b0 (.slice (some ⟨b', o', none⟩) vs.length c2) (pre ++ [UInt8.ofNat (ns.length : Int).toNat] ++ (ns.take j).flatMap (fun x => lit x 2)) wx) (fun i _ => ns.length - (intOf i).toNat)
        case atStart => exact ⟨0, Nat.zero_le _, rfl, by simpa using HIN4.out⟩
        case round =>
          rename_i wr0 _ _ _ _
          obtain ⟨j, hj, rfl, hinj⟩ := hrel
          by_cases hltj : j < ns.length
          · obtain ⟨ba, oa, rfl, hBa, hca⟩ := (HV3.out.below hinj.1).opened (by simp; omega)
            have x0 := hca j (.int .i64 ns[j]) (by simp [hltj])
            obtain ⟨x, hxx⟩ : ∃ x, x = ns[j] := ⟨_, rfl⟩
            rw [← hxx] at x0
            have htk : ns.take (j + 1) = ns.take j ++ [x] := by rw [hxx]; exact List.take_succ_eq_append_getElem hltj
            have hfl := flatMap_lit2 (ns.take j)
            rw [List.length_take] at hfl
            obtain ⟨pj, hpj⟩ : ∃ p, p = (ns.take j).flatMap (fun x => lit x 2) := ⟨_, rfl⟩
            rw [← hpj] at hfl hinj
            have HPJ := Lib.hid hpj
            have HTK := Lib.hid htk
            have HINJ := Lib.hid hinj
            have hpl : (pre ++ [UInt8.ofNat (ns.length : Int).toNat] ++ pj).length ≤ 10000 := by simp only [List.length_append, List.length_singleton]; omega
            clear hpj htk hca hxx hfl hinj
            go_wp2_with (first | (go_at_call 59; refine (little_any x 2 (by omega) _).mono ?_; rintro e W6 ⟨rfl, hbW6⟩; obtain ⟨hcW6, hfW6⟩ := bcell hbW6) | (go_at_call 72; refine ((HINJ.out.grow (by (repeat (first | assumption | exact Below.refl _ _ | refine bel_drewN ?_ _ | refine bel_alloc ?_ _ | refine bel_trans ?_ (by assumption) | refine Below.trans ?_ (by assumption))))).write _ (by rw [bs_size, lit_length]; omega)).mono ?_; rintro e W7 ⟨rfl, hin7, hoth7, hbel7⟩))
            go_roundw
            case rel =>
              refine ⟨j + 1, by omega, by go_num, ?_⟩
              rw [HTK.out, List.flatMap_append, ← HPJ.out, ← List.append_assoc]
              simpa [bl_bs] using hin7
            case measure => simp [intOf]; omega
          · obtain rfl : j = ns.length := by omega
            rw [List.take_length] at hinj
            go_wp2
            go_roundw
            case rel =>
              refine ⟨k + 1, by omega, by go_num, ?_⟩
              have e : fieldL 3 z n s ns = [UInt8.ofNat (ns.length : Int).toNat] ++ ns.flatMap (fun x => lit x 2) := by
                show lit ns.length 1 ++ _ = _
                rw [lit_one, Int.emod_eq_of_lt (by omega) (by omega)]
              rw [HN.out, ← HPRE.out, e, ← List.append_assoc]
              exact hinj
            case measure => simp [intOf]; omega
      · replace q2 : 1 ≤ z := q2
        replace q3 : z ≤ 64 := q3
        obtain ⟨zc, rfl⟩ := Int.eq_ofNat_of_zero_le (show 0 ≤ z by omega)
        go_wp2_with (first | (go_at_call 54; refine (repeat0_any zc (bs (zerosL zc)) _ rfl (by omega)).mono ?_; rintro e W3 ⟨rfl, hbW3⟩; obtain ⟨hcW3, hfW3⟩ := bcell hbW3) | (go_at_call 72; refine ((HIN.out.grow (by (repeat (first | assumption | exact Below.refl _ _ | refine bel_drewN ?_ _ | refine bel_alloc ?_ _ | refine bel_trans ?_ (by assumption) | refine Below.trans ?_ (by assumption))))).write _ (by rw [zerosL_size]; omega)).mono ?_; rintro e W4 ⟨rfl, hin4, hoth4, hbel4⟩))
        go_roundw
        case rel => exact ⟨k + 1, by omega, by go_num, by rw [HN.out, ← HPRE.out]; exact hin4⟩
        case measure => simp [intOf]; omega
    · obtain rfl : k = l.length := by omega
      go_wp2_with (go_at_call 74; refine (Try.Builder_String_any w.heap.size b0 _ _ hin.2.1 hin.1.size).mono ?_; rintro e W5 ⟨rfl, hb5⟩)
      go_ret2
      exact ⟨rfl, hin.1.trans hb5⟩
end Go.Proofs.Ytiomfkgbaemmkaa
