/-
  Chapter 21: pages with bits that were put.
  Chapter 21: the errors of operations: moved, rangeErr, kinds, CheckOp; formErr, bytesErr, OpErr.
-/
import Derived.Test.YtcfdpfmchchkaaaGreatDoorOpB
import Derived.Test.YtcfdpfmchchkaaaGreatDoorOpA
import Derived.Test.YtcfdpfmchchkaaaGreatDoorKitA
namespace Go.Proofs.YtcfdpfmchchkaaaGreatDoor
set_option linter.unusedVariables false
set_option linter.unusedSimpArgs false
open Go.RowKit Go.Sort
def BytesAt (w : World) (g : Nat) (l : List UInt8) : Prop := ∀ j, j < l.length → w.cell? ⟨g, j, none⟩ = some (byteV (l.getD j 0)) ∧ w.frozen? ⟨g, j, none⟩ = false
theorem bytesAt_new (w : World) (s : ByteArray) : BytesAt (Lib.bytesWorld w 5 s) w.heap.size (bl s) := fun j hj => by
 rw [bl_length] at hj
 refine ⟨Lib.bytesWorld_cell _ _ _ _ hj, ?_⟩
 have h1 := Lib.bytesWorld_at_new w 5 s
 have h2 : j < (Lib.bytesCells w 5 s).size := by
  have h3 := Lib.bytesWorld_cell w 5 s j hj
  rw [cell_of_row _ _ _ _ _ _ h1] at h3
  exact (Array.getElem?_eq_some_iff.1 h3).1
 unfold World.frozen?
 rw [h1]
 simp; omega
theorem BytesAt.set {w : World} {g : Nat} {l : List UInt8} (h : BytesAt w g l) (i : Nat) (hi : i < l.length) (b : UInt8) : BytesAt (w.setCell ⟨g, i, none⟩ (byteV b)) g (l.set i b) := by
 intro j hj
 rw [List.length_set] at hj
 obtain ⟨h1, h2⟩ := h j hj
 refine ⟨?_, by rw [World.frozen?_setCell]; exact h2⟩
 by_cases e : i = j
 · subst e
   rw [World.cell?_setCell_same _ _ _ h1, getD_get, List.getElem?_set_self hi]; rfl
 · rw [World.cell?_setCell_other _ _ _ _ (by intro h; injection h with _ h; exact e h), h1, getD_get, getD_get, List.getElem?_set_ne e]
theorem BytesAt.below {w w' : World} {g : Nat} {l : List UInt8} (h : BytesAt w g l) (hg : g < w.heap.size) (hb : Below w.heap.size w w') : BytesAt w' g l := fun j hj => by
 obtain ⟨h1, h2⟩ := h j hj
 exact ⟨(hb.cell (p := ⟨g, j, none⟩) hg).trans h1, (hb.frozen (p := ⟨g, j, none⟩) hg).trans h2⟩
theorem BytesAt.set2 {w : World} {g : Nat} {l : List UInt8} (h : BytesAt w g l) (i : Nat) (hi : i < l.length) (b b' : UInt8) : BytesAt ((w.setCell ⟨g, i, none⟩ (byteV b)).setCell ⟨g, i, none⟩ (byteV b')) g (l.set i b') := by
 have h1 := (h.set i hi b).set i (by rw [List.length_set]; exact hi) b'
 rw [List.set_set] at h1
 exact h1
theorem retSB {a b : ByteArray} {c d : Bool} (h : a = b) (h' : c = d) : Ending.returned (.tuple #[.string a, .bool c]) = .returned (.tuple #[.string b, .bool d]) := by rw [h, h']
theorem byte_and (b : UInt8) (j : Nat) (hj : j < 8) : (bits .and .u8 (b.toNat : Int) ((2 ^ j : Nat) : Int) != 0) = bitB b j := by
 have all : ∀ n : Fin 256, ∀ j : Fin 8, (bits .and .u8 ((UInt8.ofNat n.val).toNat : Int) ((2 ^ j.val : Nat) : Int) != 0) = bitB (UInt8.ofNat n.val) j.val := by decide +kernel
 simpa using all ⟨b.toNat, b.toNat_lt⟩ ⟨j, hj⟩
theorem byte_clear (b : UInt8) (j : Nat) (hj : j < 8) : bits .andNot .u8 (b.toNat : Int) ((2 ^ j : Nat) : Int) = ((putB b j false).toNat : Int) := by
 have all : ∀ n : Fin 256, ∀ j : Fin 8, bits .andNot .u8 ((UInt8.ofNat n.val).toNat : Int) ((2 ^ j.val : Nat) : Int) = ((putB (UInt8.ofNat n.val) j.val false).toNat : Int) := by decide +kernel
 simpa using all ⟨b.toNat, b.toNat_lt⟩ ⟨j, hj⟩
theorem byte_put (b : UInt8) (j : Nat) (hj : j < 8) : bits .or .u8 ((putB b j false).toNat : Int) ((2 ^ j : Nat) : Int) = ((putB b j true).toNat : Int) := by
 have all : ∀ n : Fin 256, ∀ j : Fin 8, bits .or .u8 ((putB (UInt8.ofNat n.val) j.val false).toNat : Int) ((2 ^ j.val : Nat) : Int) = ((putB (UInt8.ofNat n.val) j.val true).toNat : Int) := by decide +kernel
 simpa using all ⟨b.toNat, b.toNat_lt⟩ ⟨j, hj⟩
set_option maxRecDepth 100000 in
set_option maxHeartbeats 4000000 in
theorem withBits_true (s : ByteArray) (a c : Nat) (w : World) (hs : s.size ≤ 3100) (hac : a + c ≤ 8 * s.size) :
 Calls Tryz.prog 243 #[.string s, .int .i64 a, .int .i64 c, .bool true] w fun e w' => e = .returned (.tuple #[.string (bs (bitsPut (bl s) a c true)), .bool (bitsAll (bl s) a c true)]) ∧ Below w.heap.size w w' := by
 have hconv := Lib.run_convert_string_bytes (P := Tryz.prog) w 9 126 5 s Tryz.underlying9 Tryz.underlying126 Tryz.underlying5
 obtain ⟨W1, hW1⟩ : ∃ W1, W1 = Lib.bytesWorld w 5 s := ⟨_, rfl⟩
 obtain ⟨cap, hcap⟩ : ∃ c, c = grownCap w s.size 0 5 := ⟨_, rfl⟩
 rw [← hW1, ← hcap] at hconv
 have hbelow : Below w.heap.size w W1 := by rw [hW1]; exact bytesWorld_below _ _ _
 have hcell : BytesAt W1 w.heap.size (bl s) := by rw [hW1]; exact bytesAt_new w s
 clear hW1 hcap
 have HB := Lib.hid hbelow
 have HC := Lib.hid hcell
 clear hbelow hcell
 go_enter Tryz.func243, Tryz.ntmps243
 go_wp2
 go_loopw [11, 12] (fun al i wr => ∃ k : Nat, k ≤ c ∧ i = .int .i64 ((a + k : Nat) : Int) ∧ al = .bool (bitsAll (bl s) a k true) ∧ Below w.heap.size w wr ∧ BytesAt wr w.heap.size (bitsPut (bl s) a k true)) (fun _ i _ => a + c - (intOf i).toNat)
 case atStart => exact ⟨0, Nat.zero_le _, rfl, rfl, HB.out, HC.out⟩
 case round =>
  obtain ⟨k, hk, rfl, rfl, hb, hB⟩ := hrel
  clear hconv
  obtain ⟨al, hal⟩ : ∃ b, b = bitsAll (bl s) a k true := ⟨_, rfl⟩
  obtain ⟨L, hL⟩ : ∃ L, L = bitsPut (bl s) a k true := ⟨_, rfl⟩
  obtain ⟨m, hm⟩ : ∃ m : Nat, m = a + k := ⟨_, rfl⟩
  rw [← hal, ← hm]
  rw [← hL] at hB
  have hll : L.length = s.size := by rw [hL, bitsPut_length, bl_length]
  by_cases hlt : k < c
  · obtain ⟨q, hq⟩ : ∃ q, q = m / 8 := ⟨_, rfl⟩
    obtain ⟨j, hj⟩ : ∃ j, j = m % 8 := ⟨_, rfl⟩
    have hj8 : j < 8 := by omega
    have hqs : q < s.size := by omega
    have hdiv : (m : Int) / 8 = (q : Int) := by omega
    have hmod : (m : Int) % 8 = (j : Int) := by omega
    have hltm : (m : Int) < (a : Int) + (c : Int) := by omega
    have hm0 : m < 30000 := by omega
    have hq0 : q < 4000 := by omega
    obtain ⟨hx, hfz⟩ := hB q (by rw [hll]; exact hqs)
    obtain ⟨b, hbv⟩ : ∃ b, b = L.getD q 0 := ⟨_, rfl⟩
    rw [← hbv] at hx
    unfold byteV at hx
    have hbit : bitB b j = bitAt (bl s) m := by
     have h1 := bitAt_bitsPut (bl s) a k m true (by rw [bl_length]; omega)
     rw [if_neg (by omega), ← hL] at h1
     rw [← h1, hbv, hq, hj]; rfl
    have hnext : bitsPut (bl s) a (k + 1) true = L.set q (putB b j true) := by
     show putAt (bitsPut (bl s) a k true) (a + k) true = _
     rw [← hL, ← hm, hbv, hq, hj]; rfl
    have hall : bitsAll (bl s) a (k + 1) true = (al && (bitB b j != true)) := by
     show (bitsAll (bl s) a k true && (bitAt (bl s) (a + k) != true)) = _
     rw [← hal, ← hm, hbit]
    have hbr := hb.size
    have HN := Lib.hid hnext
    have HA := Lib.hid hall
    have HBT := Lib.hid hB
    have HM := Lib.hid hm
    have HQ : Hid (q < L.length) := Lib.hid (by rw [hll]; exact hqs)
    clear hnext hall hB hal hL hll hbv hbit hq hj hm
    have : j = 0 ∨ j = 1 ∨ j = 2 ∨ j = 3 ∨ j = 4 ∨ j = 5 ∨ j = 6 ∨ j = 7 := by omega
    rcases this with rfl | rfl | rfl | rfl | rfl | rfl | rfl | rfl
    · have h1 : (bits .and .u8 (b.toNat : Int) 1 != 0) = bitB b 0 := byte_and b 0 (by decide)
      have h2 : bits .andNot .u8 (b.toNat : Int) 1 = ((putB b 0 false).toNat : Int) := byte_clear b 0 (by decide)
      have h3 : bits .or .u8 ((putB b 0 false).toNat : Int) 1 = ((putB b 0 true).toNat : Int) := byte_put b 0 (by decide)
      have hmod : (m : Int) % 8 = 0 := hmod
      cases al
      all_goals
       go_wp2
       go_roundw
       case rel => exact ⟨k + 1, by omega, by rw [HM.out]; go_num, congrArg Value.bool (by rw [HA.out]; cases bitB b 0 <;> rfl), by exact (hb.setCell (Nat.le_refl _) _).setCell (Nat.le_refl _) _, by rw [HN.out]; exact HBT.out.set2 q HQ.out _ _⟩
       case measure => simp [intOf]; omega
    · have h1 : (bits .and .u8 (b.toNat : Int) 2 != 0) = bitB b 1 := byte_and b 1 (by decide)
      have h2 : bits .andNot .u8 (b.toNat : Int) 2 = ((putB b 1 false).toNat : Int) := byte_clear b 1 (by decide)
      have h3 : bits .or .u8 ((putB b 1 false).toNat : Int) 2 = ((putB b 1 true).toNat : Int) := byte_put b 1 (by decide)
      have hmod : (m : Int) % 8 = 1 := hmod
      cases al
      all_goals
       go_wp2
       go_roundw
       case rel => exact ⟨k + 1, by omega, by rw [HM.out]; go_num, congrArg Value.bool (by rw [HA.out]; cases bitB b 1 <;> rfl), by exact (hb.setCell (Nat.le_refl _) _).setCell (Nat.le_refl _) _, by rw [HN.out]; exact HBT.out.set2 q HQ.out _ _⟩
       case measure => simp [intOf]; omega
    · have h1 : (bits .and .u8 (b.toNat : Int) 4 != 0) = bitB b 2 := byte_and b 2 (by decide)
      have h2 : bits .andNot .u8 (b.toNat : Int) 4 = ((putB b 2 false).toNat : Int) := byte_clear b 2 (by decide)
      have h3 : bits .or .u8 ((putB b 2 false).toNat : Int) 4 = ((putB b 2 true).toNat : Int) := byte_put b 2 (by decide)
      have hmod : (m : Int) % 8 = 2 := hmod
      cases al
      all_goals
       go_wp2
       go_roundw
       case rel => exact ⟨k + 1, by omega, by rw [HM.out]; go_num, congrArg Value.bool (by rw [HA.out]; cases bitB b 2 <;> rfl), by exact (hb.setCell (Nat.le_refl _) _).setCell (Nat.le_refl _) _, by rw [HN.out]; exact HBT.out.set2 q HQ.out _ _⟩
       case measure => simp [intOf]; omega
    · have h1 : (bits .and .u8 (b.toNat : Int) 8 != 0) = bitB b 3 := byte_and b 3 (by decide)
      have h2 : bits .andNot .u8 (b.toNat : Int) 8 = ((putB b 3 false).toNat : Int) := byte_clear b 3 (by decide)
      have h3 : bits .or .u8 ((putB b 3 false).toNat : Int) 8 = ((putB b 3 true).toNat : Int) := byte_put b 3 (by decide)
      have hmod : (m : Int) % 8 = 3 := hmod
      cases al
      all_goals
       go_wp2
       go_roundw
       case rel => exact ⟨k + 1, by omega, by rw [HM.out]; go_num, congrArg Value.bool (by rw [HA.out]; cases bitB b 3 <;> rfl), by exact (hb.setCell (Nat.le_refl _) _).setCell (Nat.le_refl _) _, by rw [HN.out]; exact HBT.out.set2 q HQ.out _ _⟩
       case measure => simp [intOf]; omega
    · have h1 : (bits .and .u8 (b.toNat : Int) 16 != 0) = bitB b 4 := byte_and b 4 (by decide)
      have h2 : bits .andNot .u8 (b.toNat : Int) 16 = ((putB b 4 false).toNat : Int) := byte_clear b 4 (by decide)
      have h3 : bits .or .u8 ((putB b 4 false).toNat : Int) 16 = ((putB b 4 true).toNat : Int) := byte_put b 4 (by decide)
      have hmod : (m : Int) % 8 = 4 := hmod
      cases al
      all_goals
       go_wp2
       go_roundw
       case rel => exact ⟨k + 1, by omega, by rw [HM.out]; go_num, congrArg Value.bool (by rw [HA.out]; cases bitB b 4 <;> rfl), by exact (hb.setCell (Nat.le_refl _) _).setCell (Nat.le_refl _) _, by rw [HN.out]; exact HBT.out.set2 q HQ.out _ _⟩
       case measure => simp [intOf]; omega
    · have h1 : (bits .and .u8 (b.toNat : Int) 32 != 0) = bitB b 5 := byte_and b 5 (by decide)
      have h2 : bits .andNot .u8 (b.toNat : Int) 32 = ((putB b 5 false).toNat : Int) := byte_clear b 5 (by decide)
      have h3 : bits .or .u8 ((putB b 5 false).toNat : Int) 32 = ((putB b 5 true).toNat : Int) := byte_put b 5 (by decide)
      have hmod : (m : Int) % 8 = 5 := hmod
      cases al
      all_goals
       go_wp2
       go_roundw
       case rel => exact ⟨k + 1, by omega, by rw [HM.out]; go_num, congrArg Value.bool (by rw [HA.out]; cases bitB b 5 <;> rfl), by exact (hb.setCell (Nat.le_refl _) _).setCell (Nat.le_refl _) _, by rw [HN.out]; exact HBT.out.set2 q HQ.out _ _⟩
       case measure => simp [intOf]; omega
    · have h1 : (bits .and .u8 (b.toNat : Int) 64 != 0) = bitB b 6 := byte_and b 6 (by decide)
      have h2 : bits .andNot .u8 (b.toNat : Int) 64 = ((putB b 6 false).toNat : Int) := byte_clear b 6 (by decide)
      have h3 : bits .or .u8 ((putB b 6 false).toNat : Int) 64 = ((putB b 6 true).toNat : Int) := byte_put b 6 (by decide)
      have hmod : (m : Int) % 8 = 6 := hmod
      cases al
      all_goals
       go_wp2
       go_roundw
       case rel => exact ⟨k + 1, by omega, by rw [HM.out]; go_num, congrArg Value.bool (by rw [HA.out]; cases bitB b 6 <;> rfl), by exact (hb.setCell (Nat.le_refl _) _).setCell (Nat.le_refl _) _, by rw [HN.out]; exact HBT.out.set2 q HQ.out _ _⟩
       case measure => simp [intOf]; omega
    · have h1 : (bits .and .u8 (b.toNat : Int) 128 != 0) = bitB b 7 := byte_and b 7 (by decide)
      have h2 : bits .andNot .u8 (b.toNat : Int) 128 = ((putB b 7 false).toNat : Int) := byte_clear b 7 (by decide)
      have h3 : bits .or .u8 ((putB b 7 false).toNat : Int) 128 = ((putB b 7 true).toNat : Int) := byte_put b 7 (by decide)
      have hmod : (m : Int) % 8 = 7 := hmod
      cases al
      all_goals
       go_wp2
       go_roundw
       case rel => exact ⟨k + 1, by omega, by rw [HM.out]; go_num, congrArg Value.bool (by rw [HA.out]; cases bitB b 7 <;> rfl), by exact (hb.setCell (Nat.le_refl _) _).setCell (Nat.le_refl _) _, by rw [HN.out]; exact HBT.out.set2 q HQ.out _ _⟩
       case measure => simp [intOf]; omega
  · obtain rfl : k = c := by omega
    have hcv := conv_row wr w.heap.size cap s.size L hll.symm (fun j hj => by
     obtain ⟨h1, _⟩ := hB j hj
     rw [h1, getD_get, List.getElem?_eq_getElem hj]; rfl)
    have HL := Lib.hid hL
    have HAL := Lib.hid hal
    have hgem : (a : Int) + (k : Int) ≤ (m : Int) := by omega
    clear hL hal hll hm hB
    go_wp2
    go_ret2
    exact ⟨retSB (by rw [HL.out]) HAL.out, hb⟩
set_option maxRecDepth 100000 in
set_option maxHeartbeats 4000000 in
theorem withBits_false (s : ByteArray) (a c : Nat) (w : World) (hs : s.size ≤ 3100) (hac : a + c ≤ 8 * s.size) :
 Calls Tryz.prog 243 #[.string s, .int .i64 a, .int .i64 c, .bool false] w fun e w' => e = .returned (.tuple #[.string (bs (bitsPut (bl s) a c false)), .bool (bitsAll (bl s) a c false)]) ∧ Below w.heap.size w w' := by
 have hconv := Lib.run_convert_string_bytes (P := Tryz.prog) w 9 126 5 s Tryz.underlying9 Tryz.underlying126 Tryz.underlying5
 obtain ⟨W1, hW1⟩ : ∃ W1, W1 = Lib.bytesWorld w 5 s := ⟨_, rfl⟩
 obtain ⟨cap, hcap⟩ : ∃ c, c = grownCap w s.size 0 5 := ⟨_, rfl⟩
 rw [← hW1, ← hcap] at hconv
 have hbelow : Below w.heap.size w W1 := by rw [hW1]; exact bytesWorld_below _ _ _
 have hcell : BytesAt W1 w.heap.size (bl s) := by rw [hW1]; exact bytesAt_new w s
 clear hW1 hcap
 have HB := Lib.hid hbelow
 have HC := Lib.hid hcell
 clear hbelow hcell
 go_enter Tryz.func243, Tryz.ntmps243
 go_wp2
 go_loopw [11, 12] (fun al i wr => ∃ k : Nat, k ≤ c ∧ i = .int .i64 ((a + k : Nat) : Int) ∧ al = .bool (bitsAll (bl s) a k false) ∧ Below w.heap.size w wr ∧ BytesAt wr w.heap.size (bitsPut (bl s) a k false)) (fun _ i _ => a + c - (intOf i).toNat)
 case atStart => exact ⟨0, Nat.zero_le _, rfl, rfl, HB.out, HC.out⟩
 case round =>
  obtain ⟨k, hk, rfl, rfl, hb, hB⟩ := hrel
  clear hconv
  obtain ⟨al, hal⟩ : ∃ b, b = bitsAll (bl s) a k false := ⟨_, rfl⟩
  obtain ⟨L, hL⟩ : ∃ L, L = bitsPut (bl s) a k false := ⟨_, rfl⟩
  obtain ⟨m, hm⟩ : ∃ m : Nat, m = a + k := ⟨_, rfl⟩
  rw [← hal, ← hm]
  rw [← hL] at hB
  have hll : L.length = s.size := by rw [hL, bitsPut_length, bl_length]
  by_cases hlt : k < c
  · obtain ⟨q, hq⟩ : ∃ q, q = m / 8 := ⟨_, rfl⟩
    obtain ⟨j, hj⟩ : ∃ j, j = m % 8 := ⟨_, rfl⟩
    have hj8 : j < 8 := by omega
    have hqs : q < s.size := by omega
    have hdiv : (m : Int) / 8 = (q : Int) := by omega
    have hmod : (m : Int) % 8 = (j : Int) := by omega
    have hltm : (m : Int) < (a : Int) + (c : Int) := by omega
    have hm0 : m < 30000 := by omega
    have hq0 : q < 4000 := by omega
    obtain ⟨hx, hfz⟩ := hB q (by rw [hll]; exact hqs)
    obtain ⟨b, hbv⟩ : ∃ b, b = L.getD q 0 := ⟨_, rfl⟩
    rw [← hbv] at hx
    unfold byteV at hx
    have hbit : bitB b j = bitAt (bl s) m := by
     have h1 := bitAt_bitsPut (bl s) a k m false (by rw [bl_length]; omega)
     rw [if_neg (by omega), ← hL] at h1
     rw [← h1, hbv, hq, hj]; rfl
    have hnext : bitsPut (bl s) a (k + 1) false = L.set q (putB b j false) := by
     show putAt (bitsPut (bl s) a k false) (a + k) false = _
     rw [← hL, ← hm, hbv, hq, hj]; rfl
    have hall : bitsAll (bl s) a (k + 1) false = (al && (bitB b j != false)) := by
     show (bitsAll (bl s) a k false && (bitAt (bl s) (a + k) != false)) = _
     rw [← hal, ← hm, hbit]
    have hbr := hb.size
    have HN := Lib.hid hnext
    have HA := Lib.hid hall
    have HBT := Lib.hid hB
    have HM := Lib.hid hm
    have HQ : Hid (q < L.length) := Lib.hid (by rw [hll]; exact hqs)
    clear hnext hall hB hal hL hll hbv hbit hq hj hm
    have : j = 0 ∨ j = 1 ∨ j = 2 ∨ j = 3 ∨ j = 4 ∨ j = 5 ∨ j = 6 ∨ j = 7 := by omega
    rcases this with rfl | rfl | rfl | rfl | rfl | rfl | rfl | rfl
    · have h1 : (bits .and .u8 (b.toNat : Int) 1 != 0) = bitB b 0 := byte_and b 0 (by decide)
      have h2 : bits .andNot .u8 (b.toNat : Int) 1 = ((putB b 0 false).toNat : Int) := byte_clear b 0 (by decide)
      have h3 : bits .or .u8 ((putB b 0 false).toNat : Int) 1 = ((putB b 0 true).toNat : Int) := byte_put b 0 (by decide)
      have hmod : (m : Int) % 8 = 0 := hmod
      cases al
      all_goals
       go_wp2
       go_roundw
       case rel => exact ⟨k + 1, by omega, by rw [HM.out]; go_num, congrArg Value.bool (by rw [HA.out]; cases bitB b 0 <;> rfl), by exact hb.setCell (Nat.le_refl _) _, by rw [HN.out]; exact HBT.out.set q HQ.out _⟩
       case measure => simp [intOf]; omega
    · have h1 : (bits .and .u8 (b.toNat : Int) 2 != 0) = bitB b 1 := byte_and b 1 (by decide)
      have h2 : bits .andNot .u8 (b.toNat : Int) 2 = ((putB b 1 false).toNat : Int) := byte_clear b 1 (by decide)
      have h3 : bits .or .u8 ((putB b 1 false).toNat : Int) 2 = ((putB b 1 true).toNat : Int) := byte_put b 1 (by decide)
      have hmod : (m : Int) % 8 = 1 := hmod
      cases al
      all_goals
       go_wp2
       go_roundw
       case rel => exact ⟨k + 1, by omega, by rw [HM.out]; go_num, congrArg Value.bool (by rw [HA.out]; cases bitB b 1 <;> rfl), by exact hb.setCell (Nat.le_refl _) _, by rw [HN.out]; exact HBT.out.set q HQ.out _⟩
       case measure => simp [intOf]; omega
    · have h1 : (bits .and .u8 (b.toNat : Int) 4 != 0) = bitB b 2 := byte_and b 2 (by decide)
      have h2 : bits .andNot .u8 (b.toNat : Int) 4 = ((putB b 2 false).toNat : Int) := byte_clear b 2 (by decide)
      have h3 : bits .or .u8 ((putB b 2 false).toNat : Int) 4 = ((putB b 2 true).toNat : Int) := byte_put b 2 (by decide)
      have hmod : (m : Int) % 8 = 2 := hmod
      cases al
      all_goals
       go_wp2
       go_roundw
       case rel => exact ⟨k + 1, by omega, by rw [HM.out]; go_num, congrArg Value.bool (by rw [HA.out]; cases bitB b 2 <;> rfl), by exact hb.setCell (Nat.le_refl _) _, by rw [HN.out]; exact HBT.out.set q HQ.out _⟩
       case measure => simp [intOf]; omega
    · have h1 : (bits .and .u8 (b.toNat : Int) 8 != 0) = bitB b 3 := byte_and b 3 (by decide)
      have h2 : bits .andNot .u8 (b.toNat : Int) 8 = ((putB b 3 false).toNat : Int) := byte_clear b 3 (by decide)
      have h3 : bits .or .u8 ((putB b 3 false).toNat : Int) 8 = ((putB b 3 true).toNat : Int) := byte_put b 3 (by decide)
      have hmod : (m : Int) % 8 = 3 := hmod
      cases al
      all_goals
       go_wp2
       go_roundw
       case rel => exact ⟨k + 1, by omega, by rw [HM.out]; go_num, congrArg Value.bool (by rw [HA.out]; cases bitB b 3 <;> rfl), by exact hb.setCell (Nat.le_refl _) _, by rw [HN.out]; exact HBT.out.set q HQ.out _⟩
       case measure => simp [intOf]; omega
    · have h1 : (bits .and .u8 (b.toNat : Int) 16 != 0) = bitB b 4 := byte_and b 4 (by decide)
      have h2 : bits .andNot .u8 (b.toNat : Int) 16 = ((putB b 4 false).toNat : Int) := byte_clear b 4 (by decide)
      have h3 : bits .or .u8 ((putB b 4 false).toNat : Int) 16 = ((putB b 4 true).toNat : Int) := byte_put b 4 (by decide)
      have hmod : (m : Int) % 8 = 4 := hmod
      cases al
      all_goals
       go_wp2
       go_roundw
       case rel => exact ⟨k + 1, by omega, by rw [HM.out]; go_num, congrArg Value.bool (by rw [HA.out]; cases bitB b 4 <;> rfl), by exact hb.setCell (Nat.le_refl _) _, by rw [HN.out]; exact HBT.out.set q HQ.out _⟩
       case measure => simp [intOf]; omega
    · have h1 : (bits .and .u8 (b.toNat : Int) 32 != 0) = bitB b 5 := byte_and b 5 (by decide)
      have h2 : bits .andNot .u8 (b.toNat : Int) 32 = ((putB b 5 false).toNat : Int) := byte_clear b 5 (by decide)
      have h3 : bits .or .u8 ((putB b 5 false).toNat : Int) 32 = ((putB b 5 true).toNat : Int) := byte_put b 5 (by decide)
      have hmod : (m : Int) % 8 = 5 := hmod
      cases al
      all_goals
       go_wp2
       go_roundw
       case rel => exact ⟨k + 1, by omega, by rw [HM.out]; go_num, congrArg Value.bool (by rw [HA.out]; cases bitB b 5 <;> rfl), by exact hb.setCell (Nat.le_refl _) _, by rw [HN.out]; exact HBT.out.set q HQ.out _⟩
       case measure => simp [intOf]; omega
    · have h1 : (bits .and .u8 (b.toNat : Int) 64 != 0) = bitB b 6 := byte_and b 6 (by decide)
      have h2 : bits .andNot .u8 (b.toNat : Int) 64 = ((putB b 6 false).toNat : Int) := byte_clear b 6 (by decide)
      have h3 : bits .or .u8 ((putB b 6 false).toNat : Int) 64 = ((putB b 6 true).toNat : Int) := byte_put b 6 (by decide)
      have hmod : (m : Int) % 8 = 6 := hmod
      cases al
      all_goals
       go_wp2
       go_roundw
       case rel => exact ⟨k + 1, by omega, by rw [HM.out]; go_num, congrArg Value.bool (by rw [HA.out]; cases bitB b 6 <;> rfl), by exact hb.setCell (Nat.le_refl _) _, by rw [HN.out]; exact HBT.out.set q HQ.out _⟩
       case measure => simp [intOf]; omega
    · have h1 : (bits .and .u8 (b.toNat : Int) 128 != 0) = bitB b 7 := byte_and b 7 (by decide)
      have h2 : bits .andNot .u8 (b.toNat : Int) 128 = ((putB b 7 false).toNat : Int) := byte_clear b 7 (by decide)
      have h3 : bits .or .u8 ((putB b 7 false).toNat : Int) 128 = ((putB b 7 true).toNat : Int) := byte_put b 7 (by decide)
      have hmod : (m : Int) % 8 = 7 := hmod
      cases al
      all_goals
       go_wp2
       go_roundw
       case rel => exact ⟨k + 1, by omega, by rw [HM.out]; go_num, congrArg Value.bool (by rw [HA.out]; cases bitB b 7 <;> rfl), by exact hb.setCell (Nat.le_refl _) _, by rw [HN.out]; exact HBT.out.set q HQ.out _⟩
       case measure => simp [intOf]; omega
  · obtain rfl : k = c := by omega
    have hcv := conv_row wr w.heap.size cap s.size L hll.symm (fun j hj => by
     obtain ⟨h1, _⟩ := hB j hj
     rw [h1, getD_get, List.getElem?_eq_getElem hj]; rfl)
    have HL := Lib.hid hL
    have HAL := Lib.hid hal
    have hgem : (a : Int) + (k : Int) ≤ (m : Int) := by omega
    clear hL hal hll hm hB
    go_wp2
    go_ret2
    exact ⟨retSB (by rw [HL.out]) HAL.out, hb⟩
end Go.Proofs.YtcfdpfmchchkaaaGreatDoor
namespace Go.Proofs.YtcfdpfmchchkaaaGreatDoor
set_option linter.unusedVariables false
set_option linter.unusedSimpArgs false
open Go.RowKit
theorem moved_any (k a e c : Int) (o n : ByteArray) (w : World) (ho : o.size ≤ 3100) (hn : n.size ≤ 3100) :
 Calls Tryz.prog 240 #[.agg #[.int .i64 k, .int .i64 a, .int .i64 e, .int .i64 c, .string o, .string n]] w fun e w' => e = .returned (.string (o ++ n)) ∧ Below w.heap.size w w' := by
 have hnn : ¬ (9223372036854775807 < o.size + n.size) := by omega
 go_enter Tryz.func240, Tryz.ntmps240
 go_wp2
 go_ret
 exact ⟨rfl, by (repeat (first | assumption | exact Below.refl _ _ | refine bel_drewN ?_ _ | refine bel_alloc ?_ _ | refine bel_trans ?_ (by assumption) | refine Below.trans ?_ (by assumption)))⟩
theorem rangeErr_1 (a e c : Int) (o n : ByteArray) (w : World) (ho : o.size ≤ 3100) (hn : n.size ≤ 3100) :
 Calls Tryz.prog 214 #[.agg #[.int .i64 1, .int .i64 a, .int .i64 e, .int .i64 c, .string o, .string n]] w fun r w' => r = .returned (.int .i64 (unl (opRng ⟨1, a, e, c, o, n⟩) 2)) ∧ Below w.heap.size w w' := by
 have hsz : (o ++ n).size = o.size + n.size := ByteArray.size_append
 cases h : inB a 0 511
 · have hr : opRng ⟨1, a, e, c, o, n⟩ = false := by simp [opRng, h]
   have HR := Lib.hid hr
   clear hr
   go_enter Tryz.func214, Tryz.ntmps214
   go_wp2_with (first | (go_at_call 152; refine (logop_within_any _ _ _ _).mono ?_; rintro e w' ⟨rfl, rfl⟩) | (go_at_call 240; refine (moved_any _ _ _ _ o n _ ho hn).mono ?_; rintro e W1 ⟨rfl, hbW1⟩; obtain ⟨hcW1, hfW1⟩ := bcell hbW1) | (go_at_call 151; refine (logop_unless_any _ _ _).mono ?_; rintro e w' ⟨rfl, rfl⟩))
   go_ret
   exact ⟨retI (by rw [HR.out]), by (repeat (first | assumption | exact Below.refl _ _ | refine bel_drewN ?_ _ | refine bel_alloc ?_ _ | refine bel_trans ?_ (by assumption) | refine Below.trans ?_ (by assumption)))⟩
 · have hb := inB_true.1 h
   go_enter Tryz.func214, Tryz.ntmps214
   go_wp2_with (first | (go_at_call 152; refine (logop_within_any _ _ _ _).mono ?_; rintro e w' ⟨rfl, rfl⟩) | (go_at_call 240; refine (moved_any _ _ _ _ o n _ ho hn).mono ?_; rintro e W1 ⟨rfl, hbW1⟩; obtain ⟨hcW1, hfW1⟩ := bcell hbW1) | (go_at_call 151; refine (logop_unless_any _ _ _).mono ?_; rintro e w' ⟨rfl, rfl⟩))
   go_ret
   exact ⟨retI (by simp [opRng, h]), by (repeat (first | assumption | exact Below.refl _ _ | refine bel_drewN ?_ _ | refine bel_alloc ?_ _ | refine bel_trans ?_ (by assumption) | refine Below.trans ?_ (by assumption)))⟩
theorem rangeErr_2 (a e c : Int) (o n : ByteArray) (w : World) (ho : o.size ≤ 3100) (hn : n.size ≤ 3100) :
 Calls Tryz.prog 214 #[.agg #[.int .i64 2, .int .i64 a, .int .i64 e, .int .i64 c, .string o, .string n]] w fun r w' => r = .returned (.int .i64 (unl (opRng ⟨2, a, e, c, o, n⟩) 2)) ∧ Below w.heap.size w w' := by
 have hsz : (o ++ n).size = o.size + n.size := ByteArray.size_append
 cases h : inB a 0 511
 · have hr : opRng ⟨2, a, e, c, o, n⟩ = false := by simp [opRng, h]
   have HR := Lib.hid hr
   clear hr
   go_enter Tryz.func214, Tryz.ntmps214
   go_wp2_with (first | (go_at_call 152; refine (logop_within_any _ _ _ _).mono ?_; rintro e w' ⟨rfl, rfl⟩) | (go_at_call 240; refine (moved_any _ _ _ _ o n _ ho hn).mono ?_; rintro e W1 ⟨rfl, hbW1⟩; obtain ⟨hcW1, hfW1⟩ := bcell hbW1) | (go_at_call 151; refine (logop_unless_any _ _ _).mono ?_; rintro e w' ⟨rfl, rfl⟩))
   go_ret
   exact ⟨retI (by rw [HR.out]), by (repeat (first | assumption | exact Below.refl _ _ | refine bel_drewN ?_ _ | refine bel_alloc ?_ _ | refine bel_trans ?_ (by assumption) | refine Below.trans ?_ (by assumption)))⟩
 · have hb := inB_true.1 h
   go_enter Tryz.func214, Tryz.ntmps214
   go_wp2_with (first | (go_at_call 152; refine (logop_within_any _ _ _ _).mono ?_; rintro e w' ⟨rfl, rfl⟩) | (go_at_call 240; refine (moved_any _ _ _ _ o n _ ho hn).mono ?_; rintro e W1 ⟨rfl, hbW1⟩; obtain ⟨hcW1, hfW1⟩ := bcell hbW1) | (go_at_call 151; refine (logop_unless_any _ _ _).mono ?_; rintro e w' ⟨rfl, rfl⟩))
   go_ret
   exact ⟨retI (by simp [opRng, h]), by (repeat (first | assumption | exact Below.refl _ _ | refine bel_drewN ?_ _ | refine bel_alloc ?_ _ | refine bel_trans ?_ (by assumption) | refine Below.trans ?_ (by assumption)))⟩
theorem rangeErr_3 (a e c : Int) (o n : ByteArray) (w : World) (ho : o.size ≤ 3100) (hn : n.size ≤ 3100) :
 Calls Tryz.prog 214 #[.agg #[.int .i64 3, .int .i64 a, .int .i64 e, .int .i64 c, .string o, .string n]] w fun r w' => r = .returned (.int .i64 (unl (opRng ⟨3, a, e, c, o, n⟩) 2)) ∧ Below w.heap.size w w' := by
 have hsz : (o ++ n).size = o.size + n.size := ByteArray.size_append
 cases h : inB a 0 511
 · have hr : opRng ⟨3, a, e, c, o, n⟩ = false := by simp [opRng, h]
   have HR := Lib.hid hr
   clear hr
   go_enter Tryz.func214, Tryz.ntmps214
   go_wp2_with (first | (go_at_call 152; refine (logop_within_any _ _ _ _).mono ?_; rintro e w' ⟨rfl, rfl⟩) | (go_at_call 240; refine (moved_any _ _ _ _ o n _ ho hn).mono ?_; rintro e W1 ⟨rfl, hbW1⟩; obtain ⟨hcW1, hfW1⟩ := bcell hbW1) | (go_at_call 151; refine (logop_unless_any _ _ _).mono ?_; rintro e w' ⟨rfl, rfl⟩))
   go_ret
   exact ⟨retI (by rw [HR.out]), by (repeat (first | assumption | exact Below.refl _ _ | refine bel_drewN ?_ _ | refine bel_alloc ?_ _ | refine bel_trans ?_ (by assumption) | refine Below.trans ?_ (by assumption)))⟩
 · have hb := inB_true.1 h
   go_enter Tryz.func214, Tryz.ntmps214
   go_wp2_with (first | (go_at_call 152; refine (logop_within_any _ _ _ _).mono ?_; rintro e w' ⟨rfl, rfl⟩) | (go_at_call 240; refine (moved_any _ _ _ _ o n _ ho hn).mono ?_; rintro e W1 ⟨rfl, hbW1⟩; obtain ⟨hcW1, hfW1⟩ := bcell hbW1) | (go_at_call 151; refine (logop_unless_any _ _ _).mono ?_; rintro e w' ⟨rfl, rfl⟩))
   go_ret
   exact ⟨retI (by simp [opRng, h]), by (repeat (first | assumption | exact Below.refl _ _ | refine bel_drewN ?_ _ | refine bel_alloc ?_ _ | refine bel_trans ?_ (by assumption) | refine Below.trans ?_ (by assumption)))⟩
theorem rangeErr_4 (a e c : Int) (o n : ByteArray) (w : World) (ho : o.size ≤ 3100) (hn : n.size ≤ 3100) :
 Calls Tryz.prog 214 #[.agg #[.int .i64 4, .int .i64 a, .int .i64 e, .int .i64 c, .string o, .string n]] w fun r w' => r = .returned (.int .i64 (unl (opRng ⟨4, a, e, c, o, n⟩) 2)) ∧ Below w.heap.size w w' := by
 have hsz : (o ++ n).size = o.size + n.size := ByteArray.size_append
 cases h : inB a 0 4095
 · have hr : opRng ⟨4, a, e, c, o, n⟩ = false := by simp [opRng, h]
   have HR := Lib.hid hr
   clear hr
   go_enter Tryz.func214, Tryz.ntmps214
   go_wp2_with (first | (go_at_call 152; refine (logop_within_any _ _ _ _).mono ?_; rintro e w' ⟨rfl, rfl⟩) | (go_at_call 240; refine (moved_any _ _ _ _ o n _ ho hn).mono ?_; rintro e W1 ⟨rfl, hbW1⟩; obtain ⟨hcW1, hfW1⟩ := bcell hbW1) | (go_at_call 151; refine (logop_unless_any _ _ _).mono ?_; rintro e w' ⟨rfl, rfl⟩))
   go_ret
   exact ⟨retI (by rw [HR.out]), by (repeat (first | assumption | exact Below.refl _ _ | refine bel_drewN ?_ _ | refine bel_alloc ?_ _ | refine bel_trans ?_ (by assumption) | refine Below.trans ?_ (by assumption)))⟩
 · have hb := inB_true.1 h
   go_enter Tryz.func214, Tryz.ntmps214
   go_wp2_with (first | (go_at_call 152; refine (logop_within_any _ _ _ _).mono ?_; rintro e w' ⟨rfl, rfl⟩) | (go_at_call 240; refine (moved_any _ _ _ _ o n _ ho hn).mono ?_; rintro e W1 ⟨rfl, hbW1⟩; obtain ⟨hcW1, hfW1⟩ := bcell hbW1) | (go_at_call 151; refine (logop_unless_any _ _ _).mono ?_; rintro e w' ⟨rfl, rfl⟩))
   go_ret
   exact ⟨retI (by simp [opRng, h]), by (repeat (first | assumption | exact Below.refl _ _ | refine bel_drewN ?_ _ | refine bel_alloc ?_ _ | refine bel_trans ?_ (by assumption) | refine Below.trans ?_ (by assumption)))⟩
theorem rangeErr_5 (a e c : Int) (o n : ByteArray) (w : World) (ho : o.size ≤ 3100) (hn : n.size ≤ 3100) :
 Calls Tryz.prog 214 #[.agg #[.int .i64 5, .int .i64 a, .int .i64 e, .int .i64 c, .string o, .string n]] w fun r w' => r = .returned (.int .i64 (unl (opRng ⟨5, a, e, c, o, n⟩) 2)) ∧ Below w.heap.size w w' := by
 have hsz : (o ++ n).size = o.size + n.size := ByteArray.size_append
 cases h : inB a 0 4095
 · have hr : opRng ⟨5, a, e, c, o, n⟩ = false := by simp [opRng, h]
   have HR := Lib.hid hr
   clear hr
   go_enter Tryz.func214, Tryz.ntmps214
   go_wp2_with (first | (go_at_call 152; refine (logop_within_any _ _ _ _).mono ?_; rintro e w' ⟨rfl, rfl⟩) | (go_at_call 240; refine (moved_any _ _ _ _ o n _ ho hn).mono ?_; rintro e W1 ⟨rfl, hbW1⟩; obtain ⟨hcW1, hfW1⟩ := bcell hbW1) | (go_at_call 151; refine (logop_unless_any _ _ _).mono ?_; rintro e w' ⟨rfl, rfl⟩))
   go_ret
   exact ⟨retI (by rw [HR.out]), by (repeat (first | assumption | exact Below.refl _ _ | refine bel_drewN ?_ _ | refine bel_alloc ?_ _ | refine bel_trans ?_ (by assumption) | refine Below.trans ?_ (by assumption)))⟩
 · have hb := inB_true.1 h
   go_enter Tryz.func214, Tryz.ntmps214
   go_wp2_with (first | (go_at_call 152; refine (logop_within_any _ _ _ _).mono ?_; rintro e w' ⟨rfl, rfl⟩) | (go_at_call 240; refine (moved_any _ _ _ _ o n _ ho hn).mono ?_; rintro e W1 ⟨rfl, hbW1⟩; obtain ⟨hcW1, hfW1⟩ := bcell hbW1) | (go_at_call 151; refine (logop_unless_any _ _ _).mono ?_; rintro e w' ⟨rfl, rfl⟩))
   go_ret
   exact ⟨retI (by simp [opRng, h]), by (repeat (first | assumption | exact Below.refl _ _ | refine bel_drewN ?_ _ | refine bel_alloc ?_ _ | refine bel_trans ?_ (by assumption) | refine Below.trans ?_ (by assumption)))⟩
theorem rangeErr_0 (a e c : Int) (o n : ByteArray) (w : World) (ho : o.size ≤ 3100) (hn : n.size ≤ 3100) :
 Calls Tryz.prog 214 #[.agg #[.int .i64 0, .int .i64 a, .int .i64 e, .int .i64 c, .string o, .string n]] w fun r w' => r = .returned (.int .i64 (unl (opRng ⟨0, a, e, c, o, n⟩) 2)) ∧ Below w.heap.size w w' := by
 have hsz : (o ++ n).size = o.size + n.size := ByteArray.size_append
 go_enter Tryz.func214, Tryz.ntmps214
 go_wp2_with (first | (go_at_call 152; refine (logop_within_any _ _ _ _).mono ?_; rintro e w' ⟨rfl, rfl⟩) | (go_at_call 240; refine (moved_any _ _ _ _ o n _ ho hn).mono ?_; rintro e W1 ⟨rfl, hbW1⟩; obtain ⟨hcW1, hfW1⟩ := bcell hbW1) | (go_at_call 151; refine (logop_unless_any _ _ _).mono ?_; rintro e w' ⟨rfl, rfl⟩))
 go_ret
 exact ⟨rfl, by (repeat (first | assumption | exact Below.refl _ _ | refine bel_drewN ?_ _ | refine bel_alloc ?_ _ | refine bel_trans ?_ (by assumption) | refine Below.trans ?_ (by assumption)))⟩
theorem rangeErr_6 (a e c : Int) (o n : ByteArray) (w : World) (ho : o.size ≤ 3100) (hn : n.size ≤ 3100) :
 Calls Tryz.prog 214 #[.agg #[.int .i64 6, .int .i64 a, .int .i64 e, .int .i64 c, .string o, .string n]] w fun r w' => r = .returned (.int .i64 (unl (opRng ⟨6, a, e, c, o, n⟩) 2)) ∧ Below w.heap.size w w' := by
 have hsz : (o ++ n).size = o.size + n.size := ByteArray.size_append
 go_enter Tryz.func214, Tryz.ntmps214
 go_wp2_with (first | (go_at_call 152; refine (logop_within_any _ _ _ _).mono ?_; rintro e w' ⟨rfl, rfl⟩) | (go_at_call 240; refine (moved_any _ _ _ _ o n _ ho hn).mono ?_; rintro e W1 ⟨rfl, hbW1⟩; obtain ⟨hcW1, hfW1⟩ := bcell hbW1) | (go_at_call 151; refine (logop_unless_any _ _ _).mono ?_; rintro e w' ⟨rfl, rfl⟩))
 go_ret
 exact ⟨rfl, by (repeat (first | assumption | exact Below.refl _ _ | refine bel_drewN ?_ _ | refine bel_alloc ?_ _ | refine bel_trans ?_ (by assumption) | refine Below.trans ?_ (by assumption)))⟩
end Go.Proofs.YtcfdpfmchchkaaaGreatDoor
