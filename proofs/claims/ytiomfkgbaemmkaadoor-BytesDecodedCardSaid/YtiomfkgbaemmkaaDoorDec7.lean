/-
  Chapter 1: the reference's decoding of a list, of all fields.
-/
import Derived.Test.YtiomfkgbaemmkaaDoorDec6
namespace Go.Proofs.YtiomfkgbaemmkaaDoor
set_option linter.unusedVariables false
set_option linter.unusedSimpArgs false
open Go.RowKit Go.Sort

theorem own_not {w : World} {base g : Nat} {e : TypeId} {size n : Nat} {v : Value} {xs : List Value} (h : w.ownsRow base e size v n xs) (hg : g < base) : v.ownBlock ≠ some g := fun he => by
  have := (h.lt g he).1
  omega
theorem Box.grown {w w' : World} {g : Nat} {cs : Array Value} {T : TypeId} {row : Option Nat} (h : Box w g cs T) (hg : w.grownBy w' row) (hne : row ≠ some g) : Box w' g cs T := (hg.block g h.lt (fun e => hne e.symm)).trans h

set_option maxRecDepth 100000 in
set_option maxHeartbeats 1000000 in
theorem decodeField_list (z : Int) (s : ByteArray) (w : World) (hz : fldE 3 z = 0) (hs : s.size ≤ 200000) (h : 0 < s.size) (h2 : 1 + 2 * (s[0].toNat : Int) ≤ (s.size : Int)) (h3 : (s[0].toNat : Int) ≤ z) :
    Calls Tryd.prog 36 #[.agg #[.int .i64 3, .int .i64 z], .string s] w (DecPost (decF 3 z (bl s)) w) := by
  obtain ⟨_, _, z1, z2⟩ := fldE_zero hz
  replace z1 : 0 ≤ z := z1
  replace z2 : z ≤ 127 := z2
  have hop : opn 3 = true := rfl
  have h' : ((s.size : Int) == 0) = false := by rw [beq_eq_false_iff_ne]; omega
  have hg : (bl s).getD 0 0 = s[0] := by rw [List.getD_eq_getElem?_getD, List.getElem?_eq_getElem (by rw [bl_length]; exact h)]; rfl
  have hc8 := s[0].toNat_lt
  have hd : decF 3 z (bl s) = (⟨0, ⟨#[]⟩, listN ((bl s).drop 1) s[0].toNat⟩, 1 + 2 * s[0].toNat, 0) := by
    unfold decF; rw [hg, if_pos (by omega), if_neg (by rw [bl_length]; omega), if_neg (by rw [bl_length, if_pos rfl]; omega), if_neg (by omega), if_neg (by omega)]
  have HD := Lib.hid hd
  obtain ⟨i0, hi, hz0, hz1, hz2⟩ := info_parts info_int
  clear hd hz hg
  go_enter Tryd.func36, Tryd.ntmps36
  go_wp2_with (go_at_call 59; refine (isFixed_any _ _ _).mono ?_; rintro e W1 ⟨rfl, hbW1⟩; obtain ⟨hcW1, hfW1⟩ := bcell hbW1; have hb1 : Below w.heap.size w W1 := (by (repeat (first | assumption | exact Below.refl _ _ | refine bel_drewN ?_ _ | refine bel_alloc ?_ _ | refine bel_trans ?_ (by assumption) | refine Below.trans ?_ (by assumption)))); have ho1 : Box W1 (w.heap.size + 1) #[.int .i64 0, .string ⟨#[]⟩, .slice none 0 0] 47 := (by have h := (Box.new (w.alloc (.cells #[.int .i64 3, .int .i64 z] 44)) #[.int .i64 0, .string ⟨#[]⟩, .slice none 0 0] 47).below hbW1; rw [World.size_alloc] at h; exact h); have hsz1 : w.heap.size + 1 < W1.heap.size := (by have := hbW1.size; simp at this; omega))
  obtain ⟨g, hg⟩ : ∃ g, g = W1.heap.size := ⟨_, rfl⟩
  have hbg : Box (W1.alloc (.cells #[.int .i64 0, .string ⟨#[]⟩, .slice none 0 0] 47)) g #[.int .i64 0, .string ⟨#[]⟩, .slice none 0 0] 47 := by rw [hg]; exact Box.new _ _ _
  have hb2 : Below w.heap.size w (W1.alloc (.cells #[.int .i64 0, .string ⟨#[]⟩, .slice none 0 0] 47)) := bel_alloc hb1 _
  have ho2 := ho1.old (.cells #[.int .i64 0, .string ⟨#[]⟩, .slice none 0 0] 47)
  have hgw : w.heap.size + 1 < g := by omega
  have HBG := Lib.hid hbg
  have HB2 := Lib.hid hb2
  have HO2 := Lib.hid ho2
  rw [← hg]
  clear hbg hb2 ho2 hbW1 hcW1 hfW1 ho1 hb1 hg hsz1
  go_loopw [11] (fun i wr => ∃ (k : Nat) (A : Option Addr) (c : Nat), k ≤ s[0].toNat ∧ i = .int .i64 k ∧ Below w.heap.size w wr ∧ Box wr (w.heap.size + 1) #[.int .i64 0, .string ⟨#[]⟩, .slice none 0 0] 47 ∧
      Box wr g #[.int .i64 0, .string ⟨#[]⟩, .slice A k c] 47 ∧ wr.ownsRow (g + 1) 3 1 (.slice A k c) k ((listN ((bl s).drop 1) k).map (.int .i64))) (fun i _ => s[0].toNat - (intOf i).toNat)
  case atStart => exact ⟨0, none, 0, Nat.zero_le _, rfl, HB2.out, HO2.out, HBG.out, World.ownsRow_nil _ _ _ _⟩
  case round =>
    obtain ⟨k, A, c, hk, rfl, hb, ho, hbx, hown⟩ := hrel
    by_cases hlt : k < s[0].toNat
    · obtain ⟨x, hx⟩ : ∃ x, x = num (((bl s).drop (1 + 2 * k)).take 2) := ⟨_, rfl⟩
      have hL : ∀ W, Calls Tryd.prog 60 #[.string s, .int .i64 (1 + 2 * (k : Int)), .int .i64 2] W fun e w' => e = .returned (.int .i64 x) ∧ W = w' := fun W => by
        have h5 := LittleAt_any s (1 + 2 * k) 2 (by omega) (by unfold maxLen; omega) (by omega) W
        rw [show ((1 + 2 * k : Nat) : Int) = 1 + 2 * (k : Int) by omega, ← hx] at h5
        exact h5
      have hls := listN_succ ((bl s).drop 1) k
      rw [List.drop_drop, ← hx] at hls
      have w5 : IntKind.i64.wrap (2 * (k : Int)) = 2 * (k : Int) := IntWalk.i64_in _ (by omega)
      have w6 : IntKind.i64.wrap (1 + 2 * (k : Int)) = 1 + 2 * (k : Int) := IntWalk.i64_in _ (by omega)
      have c2 := hbx.cells 2
      replace c2 : wr.cell? ⟨g, 2, none⟩ = some (.slice A k c) := c2
      have hgl := hbx.lt
      have HL := Lib.hid hL
      have HX := Lib.hid hx
      have HLS := Lib.hid hls
      have HO := Lib.hid ho
      have HBX := Lib.hid hbx
      have HOWN := Lib.hid hown
      clear hL hx hls ho hbx hown
      go_wp2
      (refine wp_region_flow [false, false, false, false, false, false, false, true] [⟨7, [], OneI wr.heap.size x, false⟩] (by kernel_rfl) (by kernel_rfl) (by kernel_rfl) (by kernel_rfl) ?_; simp only [pick, List.length_cons, List.length_nil, List.drop_succ_cons, List.drop_zero, Nat.zero_add, Nat.reduceAdd]; apply Exists.intro; refine ⟨fun X hX => ?_, ?_⟩; (focus (obtain ⟨hcX, hfX⟩ := bcell hX; have hgX := regcell hX; have hsX := hX.size; (try simp only [World.size_alloc] at hsX); (repeat (go_big_quiet_step ((first | (go_at_call 60; (with_reducible exact Calls.reg_pure (HL.out _))))))); exact wpQuiet_nil rfl)); simp only [wpND, told, toldAll, List.contains_cons, List.contains_nil, List.mem_cons, List.not_mem_nil, forall_eq_or_imp, false_implies, implies_true, and_true, Nat.reduceBEq, BEq.rfl, beq_self_eq_true, Bool.or_false, Bool.false_or, Bool.true_or, Bool.or_true, Bool.false_eq_true, if_true, if_false, true_implies, dstAt, List.getElem?_toArray, List.getElem?_cons_succ, List.getElem?_cons_zero, Option.some.injEq, forall_eq', Option.bind_some, Act.put, List.setIfInBounds_toArray, List.set_cons_succ, List.set_cons_zero])
      clear w5 w6
      refine ⟨OneI.stable, fun X hX => ?_, fun v1 X hX hf => ?_⟩
      · exact leaves_alloc (v := .slice (some ⟨X.heap.size, 0, none⟩) 1 1) (obj := .cells #[.int .i64 x] 3) (by kernel_rfl) ⟨X.heap.size, rfl, hX.size, heap_alloc_new _ _⟩
      · obtain ⟨b3, rfl, hb3, hx3⟩ := hf
        have hmv := ownsRow_below HOWN.out hX
        refine wpList_append_rd X rfl (.tmp 98) (.tmp 104) 45 rfl (g + 1) 3 i0 _ 1 8 Tryd.underlying45 hi hz0 hz1 hz2 rfl (by decide) (.slice A k c) k _ rfl hmv X.heap.size (some ⟨b3, 0, none⟩) 1 1 [.int .i64 x] rfl rfl (Rd.of_block hx3) (by intro u hu; simp at hu; subst hu; rfl) (by unfold maxLen; omega) (by omega) (by have := hX.size; omega) ?_
        intro v' w1 hown1 hgrow hown hbel
        obtain ⟨A', c', rfl, _⟩ := ownsRow_form hown1
        have hbx1 : Box w1 g #[.int .i64 0, .string ⟨#[]⟩, .slice A k c] 47 := (HBX.out.below hX).grown hgrow (own_not hmv (by omega))
        have ho1 : Box w1 (w.heap.size + 1) #[.int .i64 0, .string ⟨#[]⟩, .slice none 0 0] 47 := (HO.out.below hX).grown hgrow (own_not hmv (by omega))
        have hb1 : Below w.heap.size w w1 := (bel_trans hb hX).trans (hbel.mono (by omega))
        have hown2 : w1.ownsRow (g + 1) 3 1 (.slice A' (k + 1) c') (k + 1) ((listN ((bl s).drop 1) (k + 1)).map (.int .i64)) := by rw [HLS.out, List.map_append]; exact hown1
        have HO1 := Lib.hid ho1
        have HOWN2 := Lib.hid hown2
        have HBX1 := Lib.hid hbx1
        have HB1 := Lib.hid hb1
        clear hown1 hgrow hown hbel hmv hown2 ho1 hbx1 hb1
        go_wp2_with (refine wpList_store_field rfl 45 (.tmp 106) (.tmp 105) rfl rfl g 2 (.slice A' (k + 1) c') rfl rfl rfl (by kernel_rfl) w HB1.out (by omega) 47 _ HBX1.out (by show 2 < 3; omega) ?_; intro W2 hb2 hbox2 hk2; have HO2 := Lib.hid (hk2 _ _ _ (by omega) HO1.out); have HOWN3 := Lib.hid (ownsRow_box HOWN2.out (by omega) hk2); have HBOX2 := Lib.hid hbox2; clear hk2 hbox2)
        go_roundw
        case rel => exact ⟨k + 1, A', c', by omega, by go_num, hb2, HO2.out, HBOX2.out, HOWN3.out⟩
        case measure => simp [intOf]; omega
    · obtain rfl : k = s[0].toNat := by omega
      have hxc := hbx.cells
      have hll := listN_length ((bl s).drop 1) s[0].toNat
      have HLL := Lib.hid hll
      have HOWN := Lib.hid hown
      have HBX := Lib.hid hbx
      have HO := Lib.hid ho
      have hgl := hbx.lt
      have c0 : wr.cell? ⟨g, 0, none⟩ = some (.int .i64 0) := hxc 0
      have c1 : wr.cell? ⟨g, 1, none⟩ = some (.string ⟨#[]⟩) := hxc 1
      have c2 : wr.cell? ⟨g, 2, none⟩ = some (.slice A s[0].toNat c) := hxc 2
      clear hll hown hbx ho hxc
      go_wp2_with (refine wpList_store_new rfl 47 (.tmp 4) (.tmp 107) rfl rfl (w.heap.size + 1) #[.int .i64 0, .string ⟨#[]⟩, .slice A s[0].toNat c] rfl rfl w hb (Nat.le_succ _) 47 _ HO.out (by kernel_rfl) (by kernel_rfl) (by kernel_rfl) ?_; intro W9 hb9 hr9 hk9; have HOWN9 := Lib.hid (ownsRow_box HOWN.out (by omega) hk9); clear hk9)
      refine bodyPost_ret (results_cell_tmp2 Tryd.results36 _ W9 (w.heap.size + 1) 47 _ _ _ _ rfl rfl rfl hr9 Tryd.underlying47 rfl (by kernel_rfl)) rfl ?_
      refine ⟨⟨0, ⟨#[]⟩, A, c, listN ((bl s).drop 1) s[0].toNat⟩, ?_, ?_, ?_, hb9⟩
      · rw [HD.out]
        show _ = Ending.returned (.tuple #[.agg #[.int .i64 0, .string ⟨#[]⟩, .slice A (listN ((bl s).drop 1) s[0].toNat).length c], _, _])
        rw [HLL.out]
        rfl
      · rw [HD.out]; rfl
      · show W9.ownsRow w.heap.size _ 1 (.slice A (listN ((bl s).drop 1) s[0].toNat).length c) (listN ((bl s).drop 1) s[0].toNat).length _
        rw [HLL.out]
        exact ownsRow_mono HOWN9.out (by omega)
end Go.Proofs.YtiomfkgbaemmkaaDoor
