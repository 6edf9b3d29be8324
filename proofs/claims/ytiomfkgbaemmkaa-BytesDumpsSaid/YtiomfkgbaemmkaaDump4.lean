/-
  Chapter 1: the code's dump.
-/
import Derived.Test.YtiomfkgbaemmkaaDump3
import Derived.Test.YtiomfkgbaemmkaaBldG
import Derived.Test.YtiomfkgbaemmkaaSums
import Derived.Test.YtiomfkgbaemmkaaEnc3
namespace Go.Proofs.Ytiomfkgbaemmkaa
set_option linter.unusedVariables false
set_option linter.unusedSimpArgs false
open Go.RowKit

/-- a block's first cells are these bytes, and may be written -/
def BytesAt (w : World) (g : Nat) (l : List UInt8) : Prop := ∀ j, j < l.length → w.cell? ⟨g, j, none⟩ = some (byteV (l.getD j 0)) ∧ w.frozen? ⟨g, j, none⟩ = false
theorem bytesAt_new (w : World) (s : ByteArray) : BytesAt (Lib.bytesWorld w 5 s) w.heap.size (bl s) := fun j hj => by
  rw [bl_length] at hj
  refine ⟨Lib.bytesWorld_cell _ _ _ _ hj, ?_⟩
  have h1 := Lib.bytesWorld_at_new w 5 s
  have h2 : j < (Lib.bytesCells w 5 s).size := by
    have := Lib.bytesWorld_cell w 5 s j hj
    unfold World.cell? at this
    rw [h1] at this
    exact (Array.getElem?_eq_some_iff.1 this).1
  unfold World.frozen?
  rw [h1]
  simp; omega
theorem getD_get' (l : List UInt8) (j : Nat) : l.getD j 0 = (l[j]?).getD 0 := List.getD_eq_getElem?_getD
theorem BytesAt.set {w : World} {g : Nat} {l : List UInt8} (h : BytesAt w g l) (i : Nat) (hi : i < l.length) (b : UInt8) : BytesAt (w.setCell ⟨g, i, none⟩ (byteV b)) g (l.set i b) := by
  intro j hj
  rw [List.length_set] at hj
  obtain ⟨h1, h2⟩ := h j hj
  refine ⟨?_, by rw [World.frozen?_setCell]; exact h2⟩
  by_cases e : i = j
  · subst e
    rw [World.cell?_setCell_same _ _ _ h1, getD_get', List.getElem?_set_self hi]; rfl
  · rw [World.cell?_setCell_other _ _ _ _ (by intro h; injection h with _ h; exact e h), h1, getD_get', getD_get', List.getElem?_set_ne e]
theorem BytesAt.of_block {w w' : World} {g : Nat} {l : List UInt8} (h : BytesAt w g l) (hb : w'.heap[g]? = w.heap[g]?) : BytesAt w' g l := fun j hj => by
  obtain ⟨h1, h2⟩ := h j hj
  exact ⟨(World.cell?_of_block (a := ⟨g, j, none⟩) hb).trans h1, by unfold World.frozen? at h2 ⊢; rw [hb]; exact h2⟩

theorem BldG.grow {B b g : Nat} {l : List UInt8} {w w' : World} (h : BldG B b g l w) (hb : Below w.heap.size w w') : BldG B b g l w' := by
  obtain ⟨h1, h2, h3, h4⟩ := h
  have hlt : b < w.heap.size := h1.elim (fun x => x.lt) (fun x => x.lt)
  exact ⟨IsB.below h1 hb, fun v hv => h2 v ((hb.cell (p := ⟨b, 1, none⟩) hlt).symm.trans hv), h3, by have := hb.size; omega⟩
theorem BldG.new {B b : Nat} {l : List UInt8} {w w' : World} (h : IsB B b l w) (hb : Below w.heap.size w w') (hs : w.heap.size < w'.heap.size) : BldG B b w.heap.size l w' := by
  have hlt : b < w.heap.size := h.elim (fun x => x.lt) (fun x => x.lt)
  refine ⟨IsB.below h hb, fun v hv => ?_, by omega, hs⟩
  have hv' := (hb.cell (p := ⟨b, 1, none⟩) hlt).symm.trans hv
  have key : ∀ p, Lib.BuilderAt 96 5 B b p (Lib.byteCells l) w → v.ownBlock ≠ some w.heap.size := fun p hp => by
    obtain ⟨_, u, hbk, hown, _⟩ := hp
    have : w.cell? ⟨b, 1, none⟩ = some u := by rw [Lib.cell_of_heap hbk]; rfl
    rw [this] at hv'
    injection hv' with hv'
    subst hv'
    exact own_ne hown
  exact h.elim (key _) (key _)
theorem BldG.store {B b g : Nat} {l : List UInt8} {w : World} (h : BldG B b g l w) (j : Nat) (u : Value) : BldG B b g l (w.setCell ⟨g, j, none⟩ u) := by
  obtain ⟨h1, h2, h3, h4⟩ := h
  have key : ∀ p, Lib.BuilderAt 96 5 B b p (Lib.byteCells l) w → Lib.BuilderAt 96 5 B b p (Lib.byteCells l) (w.setCell ⟨g, j, none⟩ u) := fun p hp => by
    obtain ⟨hB, v, hbk, hown, hne⟩ := hp
    have hv : v.ownBlock ≠ some g := h2 v (by rw [Lib.cell_of_heap hbk]; rfl)
    refine ⟨hB, v, (Below.heap_setCell _ _ _ _ (fun e => h3 e.symm)).trans hbk, ?_, hne⟩
    exact hown.kept (row := some g) ⟨rfl, rfl, rfl, by simp [World.setCell], fun k _ hk => Below.heap_setCell _ _ _ _ (fun e => hk (by simp [e]))⟩ (Or.inr hv)
  refine ⟨h1.elim (fun x => .inl (key _ x)) (fun x => .inr (key _ x)), fun v hv => h2 v ?_, h3, by simp only [World.size_setCell]; exact h4⟩
  rw [World.cell?_of_block (w := w) (a := ⟨b, 1, none⟩) (Below.heap_setCell _ _ _ _ (fun e => h3 e.symm))] at hv
  exact hv

theorem hex4_any (n : Nat) (w : World) (hn : n < 1099511627776) :
    Calls Try.prog 80 #[.int .i64 n, .int .i64 4] w fun e w' => (∃ H : ByteArray, e = .returned (.string H) ∧ bl H = hexN 4 n ∧ H.size = 4) ∧ Below w.heap.size w w' :=
  (hex_any n 4 w (by omega) hn).mono fun e w' ⟨h1, h2⟩ => ⟨⟨_, h1, rfl, by rw [bs_size, hexN_length]⟩, h2⟩
theorem hex2_any (n : Nat) (w : World) (hn : n < 1099511627776) :
    Calls Try.prog 80 #[.int .i64 n, .int .i64 2] w fun e w' => (∃ H : ByteArray, e = .returned (.string H) ∧ bl H = hexN 2 n ∧ H.size = 2) ∧ Below w.heap.size w w' :=
  (hex_any n 2 w (by omega) hn).mono fun e w' ⟨h1, h2⟩ => ⟨⟨_, h1, rfl, by rw [bs_size, hexN_length]⟩, h2⟩

def DIn (w : World) (pre : List UInt8) (wr : World) : Prop := Below w.heap.size w wr ∧ IsB w.heap.size w.heap.size pre wr ∧ w.heap.size < wr.heap.size
def mixL (L : List UInt8) (j : Nat) : List UInt8 := (L.take j).map shown ++ L.drop j

set_option maxHeartbeats 2000000 in
theorem dump_any (s : ByteArray) (w : World) (hs : s.size ≤ 1000000) :
    Calls Try.prog 63 #[.string s] w fun e w' => e = .returned (.string (bs (dumpL (bl s)))) ∧ Below w.heap.size w w' := by
  have hin0 : DIn w [] (w.alloc (Obj.cells #[.pointer none, .slice none 0 0] 96)) := ⟨bel_alloc (Below.refl _ _) _, Lib.fresh_isBuilder 96 5 w, by simp⟩
  have HIN := Lib.hid hin0
  clear hin0
  go_enter Try.func63, Try.ntmps63
  go_wp2
  go_loopw [4] (fun at' wr => ∃ (k a : Nat), a = 16 * k ∧ a ≤ s.size + 15 ∧ at' = .int .i64 (a : Int) ∧ DIn w (dumpB (bl s) k) wr) (fun at' _ => s.size + 16 - (intOf at').toNat)
  case atStart => exact ⟨0, 0, by omega, by omega, rfl, HIN.out⟩
  case round =>
    obtain ⟨k, a, ha, hk, rfl, hin⟩ := hrel
    clear HIN
    have hpl : (dumpB (bl s) k).length ≤ 72 * k := dumpB_length _ _
    obtain ⟨pre, hpre⟩ : ∃ p, p = dumpB (bl s) k := ⟨_, rfl⟩
    rw [← hpre] at hin hpl
    by_cases hlt : a < s.size
    · obtain ⟨X, hX⟩ : ∃ X, X = s.extract a (min ((a : Int) + 16) s.size).toNat := ⟨_, rfl⟩
      have hmn : (min ((a : Int) + 16) s.size).toNat = min (a + 16) s.size := by omega
      have hXb := take16 s k
      rw [← ha, ← hmn, ← hX] at hXb
      have hXs : X.size = min 16 (s.size - a) := by rw [← bl_length, hXb, List.length_take, List.length_drop, bl_length]
      have hX1 : X.size ≤ 16 := by omega
      have hconv := Lib.run_convert_string_bytes (P := Try.prog) wr 9 26 5 X Try.underlying9 Try.underlying26 Try.underlying5
      obtain ⟨W1, hW1⟩ : ∃ W1, W1 = Lib.bytesWorld wr 5 X := ⟨_, rfl⟩
      obtain ⟨cap, hcap⟩ : ∃ c, c = grownCap wr X.size 0 5 := ⟨_, rfl⟩
      rw [← hW1, ← hcap] at hconv
      have hbelow : Below wr.heap.size wr W1 := by rw [hW1]; exact bytesWorld_below _ _ _
      have hcell : BytesAt W1 wr.heap.size (bl X) := by rw [hW1]; exact bytesAt_new wr X
      have hs1 : wr.heap.size < W1.heap.size := by rw [hW1, Lib.bytesWorld_size]; omega
      have hbld : BldG w.heap.size w.heap.size wr.heap.size pre W1 := BldG.new hin.2.1 hbelow hs1
      have hb1 : Below w.heap.size w W1 := bel_trans hin.1 hbelow
      have hgw := hin.2.2
      obtain ⟨g, hg⟩ : ∃ g, g = wr.heap.size := ⟨_, rfl⟩
      rw [← hg] at hconv hcell hbld hs1 hgw
      have hXe := hX.symm
      have HXS := Lib.hid hXs
      have HXB := Lib.hid hXb
      have HA := Lib.hid ha
      have HP := Lib.hid hpre
      have hk72 : 72 * k ≤ 5 * a := by omega
      have HC := Lib.hid hcell
      have HB := Lib.hid hbld
      have H4 := Lib.hid (hex4_any a W1 (by omega))
      have HWS := Lib.hid (fun l S W (h : BldG w.heap.size w.heap.size g l W) (h2 : l.length + S.size ≤ 140737488355328) => WriteStringG_any w.heap.size w.heap.size g l S W h h2 (by have := h.2.2.2; omega))
      clear hXs hX hXb ha hmn hW1 hcap hbelow hcell hbld hin hg hpre
      go_wp2_with (first | (go_at_call 80; refine H4.out.mono ?_; rintro e W2 ⟨⟨H, rfl, hH, hHs⟩, hb2⟩; have hd2 := HB.out.grow hb2; have hc2 := HC.out.of_block (hb2.block g hs1)) | (go_at_call 72; refine (HWS.out _ _ _ hd2 (by rw [ByteArray.size_append, hHs]; show _ + (4 + 1) ≤ _; omega)).mono ?_; rintro e W3 ⟨rfl, hd3, hb3, hg3⟩))
      have hHd := hd3
      rw [bl_append, hH] at hHd
      have hc3 := hc2.of_block hg3
      have hb13 : Below w.heap.size w W3 := (bel_trans hb1 hb2).trans hb3
      have HD3 := Lib.hid hHd
      have HC3 := Lib.hid hc3
      clear hd3 hc3 hc2 hd2 hg3 hb3 hb2 hHd HB HC H4 hconv hXe hH hHs
      go_loopw [29] (fun i wx => ∃ (j : Nat), j ≤ X.size ∧ i = .int .i64 (j : Int) ∧ Below w.heap.size w wx ∧ BldG w.heap.size w.heap.size g (pre ++ (hexN 4 a ++ 58 :: cellsB ((bl X).take j))) wx ∧ BytesAt wx g (mixL (bl X) j)) (fun i _ => X.size - (intOf i).toNat)
      case atStart => exact ⟨0, Nat.zero_le _, rfl, hb13, HD3.out, HC3.out⟩
      case round =>
        obtain ⟨j, hj, rfl, hbx, hdx, hcx⟩ := hrel
        clear HD3 HC3 hb13
        have hml : (mixL (bl X) j).length = X.size := by unfold mixL; rw [List.length_append, List.length_map, List.length_take, List.length_drop, bl_length]; omega
        by_cases hlt2 : j < X.size
        · have htk : (bl X).take (j + 1) = (bl X).take j ++ [(bl X)[j]'(by rw [bl_length]; exact hlt2)] := List.take_succ_eq_append_getElem (by rw [bl_length]; exact hlt2)
          have hdk : (bl X).drop j = (bl X)[j]'(by rw [bl_length]; exact hlt2) :: (bl X).drop (j + 1) := List.drop_eq_getElem_cons (by rw [bl_length]; exact hlt2)
          generalize (bl X)[j]'(by rw [bl_length]; exact hlt2) = x at *
          have hmj : (mixL (bl X) j).getD j 0 = x := by
            unfold mixL
            rw [getD_get', List.getElem?_append_right (by simp; omega), List.length_map, List.length_take, bl_length, hdk, Nat.min_eq_left hj, Nat.sub_self]; rfl
          have hset : ∀ y, (mixL (bl X) j).set j y = ((bl X).take j).map shown ++ y :: (bl X).drop (j + 1) := fun y => by
            unfold mixL
            rw [List.set_append_right _ _ (by simp; omega), List.length_map, List.length_take, bl_length, hdk, Nat.min_eq_left hj, Nat.sub_self]; rfl
          have hmk : mixL (bl X) (j + 1) = ((bl X).take j).map shown ++ shown x :: (bl X).drop (j + 1) := by
            unfold mixL; rw [htk, List.map_append]; simp
          have hmk0 : mixL (bl X) j = ((bl X).take j).map shown ++ x :: (bl X).drop (j + 1) := by unfold mixL; rw [hdk]
          obtain ⟨hcj, hfj⟩ := hcx j (by rw [hml]; exact hlt2)
          rw [hmj] at hcj
          unfold byteV at hcj
          have hxl := x.toNat_lt
          have hgx : g < wr.heap.size := hdx.2.2.2
          have hcl : (cellsB ((bl X).take j)).length = 3 * j := by rw [cellsB_length, List.length_take, bl_length]; omega
          have hpl2 : (pre ++ (hexN 4 a ++ 58 :: cellsB ((bl X).take j))).length ≤ 72 * k + 60 := by rw [List.length_append, List.length_append, List.length_cons, hexN_length, hcl]; omega
          have H2 := Lib.hid (hex2_any x.toNat wr (by omega))
          have HT := Lib.hid htk
          have HSET := Lib.hid hset
          have HMK := Lib.hid hmk
          have HMK0 := Lib.hid hmk0
          have HML := Lib.hid hml
          have HDX := Lib.hid hdx
          have HCX := Lib.hid hcx
          have HP2 := Lib.hid hpl2
          have hbgrow : ∀ {W : World}, Below wr.heap.size wr W → Below w.heap.size w W := fun h => bel_trans hbx h
          clear htk hdk hmj hset hmk hmk0 hml hdx hcx hcl hpl2
          cases hin : inB (x.toNat : Int) 32 126
          · go_wp2_with (first | (go_at_call 80; refine H2.out.mono ?_; rintro e V2 ⟨⟨G, rfl, hG, hGs⟩, hv2⟩; have hd2 := HDX.out.grow hv2; have hc2 := HCX.out.of_block (hv2.block g hgx)) | (go_at_call 72; refine (HWS.out _ _ _ hd2 (by rw [ByteArray.size_append, hGs]; show _ + (1 + 2) ≤ _; have := HP2.out; omega)).mono ?_; rintro e V3 ⟨rfl, hd3, hb3, hg3⟩; have hc3 := hc2.of_block hg3; have HC3 := Lib.hid hc3; obtain ⟨hcj3, hfj3⟩ := hc3 j (by rw [HML.out]; exact hlt2); clear hc3) | (go_at_call 49; refine (within_any _ _ _ _).mono ?_; rintro e w' ⟨rfl, rfl⟩))
            have hbf : Below w.heap.size w V3 := (hbgrow hv2).trans hb3
            have hlg : w.heap.size ≤ g := by omega
            go_roundw
            case rel =>
              refine ⟨j + 1, by omega, by go_num, hbf.setCell (p := ⟨g, j, none⟩) hlg _, ?_, ?_⟩
              · have := hd3.store j (byteV 46)
                rw [bl_append, hG, List.append_assoc, List.append_assoc, List.cons_append] at this
                rw [HT.out, cellsB_snoc]
                exact this
              · have h1 := HC3.out.set j (by rw [HML.out]; exact hlt2) 46
                rw [HSET.out] at h1
                rw [HMK.out, show shown x = 46 by unfold shown; rw [if_neg (by unfold inB at hin; simp at hin; omega)]]
                exact h1
            case measure => simp [intOf]; omega
          · go_wp2_with (first | (go_at_call 80; refine H2.out.mono ?_; rintro e V2 ⟨⟨G, rfl, hG, hGs⟩, hv2⟩; have hd2 := HDX.out.grow hv2; have hc2 := HCX.out.of_block (hv2.block g hgx)) | (go_at_call 72; refine (HWS.out _ _ _ hd2 (by rw [ByteArray.size_append, hGs]; show _ + (1 + 2) ≤ _; have := HP2.out; omega)).mono ?_; rintro e V3 ⟨rfl, hd3, hb3, hg3⟩; have hc3 := hc2.of_block hg3; have HC3 := Lib.hid hc3; obtain ⟨hcj3, hfj3⟩ := hc3 j (by rw [HML.out]; exact hlt2); clear hc3) | (go_at_call 49; refine (within_any _ _ _ _).mono ?_; rintro e w' ⟨rfl, rfl⟩))
            have hbf : Below w.heap.size w V3 := (hbgrow hv2).trans hb3
            go_roundw
            case rel =>
              refine ⟨j + 1, by omega, by go_num, hbf, ?_, ?_⟩
              · have := hd3
                rw [bl_append, hG, List.append_assoc, List.append_assoc, List.cons_append] at this
                rw [HT.out, cellsB_snoc]
                exact this
              · have h1 := HC3.out
                rw [HMK0.out] at h1
                rw [HMK.out, show shown x = x by unfold shown; rw [if_pos (by unfold inB at hin; simp at hin; omega)]]
                exact h1
            case measure => simp [intOf]; omega
        · obtain rfl : j = X.size := by omega
          have hall : mixL (bl X) X.size = (bl X).map shown := by
            unfold mixL; rw [← bl_length, List.take_length, List.drop_length, List.append_nil]
          have htk : (bl X).take X.size = bl X := by rw [← bl_length]; exact List.take_length
          rw [hall] at hcx
          rw [htk] at hdx
          have hconv := conv_row wr g cap X.size ((bl X).map shown) (by rw [List.length_map, bl_length]) (fun t ht => by
            have := (hcx t ht).1
            rw [getD_get', List.getElem?_eq_getElem ht] at this
            exact this)
          obtain ⟨Z, hZ⟩ : ∃ Z, Z = bs ((bl X).map shown) := ⟨_, rfl⟩
          rw [← hZ] at hconv
          have hZs : Z.size = X.size := by rw [hZ, bs_size, List.length_map, bl_length]
          have hpl2 : (pre ++ (hexN 4 a ++ 58 :: cellsB (bl X))).length ≤ 72 * k + 60 := by rw [List.length_append, List.length_append, List.length_cons, hexN_length, cellsB_length, bl_length]; omega
          have HZ := Lib.hid hZ
          have HDX := Lib.hid hdx
          have HP2 := Lib.hid hpl2
          clear hZ hdx hcx hall htk hml hpl2
          go_wp2_with (go_at_call 72; refine (HWS.out _ _ _ HDX.out (by rw [ByteArray.size_append, ByteArray.size_append, hZs]; show _ + (2 + _ + 1) ≤ _; have := HP2.out; omega)).mono ?_; rintro e V3 ⟨rfl, hd3, hb3, hg3⟩)
          have hbf : Below w.heap.size w V3 := hbx.trans hb3
          go_roundw
          case rel =>
            refine ⟨k + 1, a + 16, by have := HA.out; omega, by omega, by go_num, hbf, ?_, by have := hd3.2.2.2; omega⟩
            have h1 := hd3.1
            rw [bl_append, bl_append, HZ.out, bl_bs] at h1
            rw [dumpB_succ, ← HP.out, ← HA.out, ← HXB.out, rowB, rowL]
            have e : pre ++ (hexN 4 a ++ 58 :: cellsB (bl X)) ++ (bl ⟨#[32, 32]⟩ ++ (bl X).map shown ++ bl ⟨#[10]⟩) = pre ++ (hexN 4 a ++ 58 :: (cellsB (bl X) ++ 32 :: 32 :: (bl X).map shown) ++ [10]) := by
              simp only [List.append_assoc, List.cons_append, List.nil_append]; rfl
            rw [e] at h1
            exact h1
          case measure => simp [intOf]; omega
    · have hfin : (dumpB (bl s) k) = dumpL (bl s) := by rw [dumpL, show k = ((bl s).length + 15) / 16 by rw [bl_length]; omega]
      rw [hpre, hfin] at hin
      go_wp2_with (go_at_call 74; refine (Try.Builder_String_any w.heap.size w.heap.size _ _ hin.2.1 hin.1.size).mono ?_; rintro e W5 ⟨rfl, hb5⟩)
      go_ret
      exact ⟨rfl, hin.1.trans hb5⟩
end Go.Proofs.Ytiomfkgbaemmkaa
