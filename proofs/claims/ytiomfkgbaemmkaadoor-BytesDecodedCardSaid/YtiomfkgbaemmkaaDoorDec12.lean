/-
  Chapter 1: DecodeFields.
-/
import Derived.Test.YtiomfkgbaemmkaaDoorDec11
namespace Go.Proofs.YtiomfkgbaemmkaaDoor
set_option linter.unusedVariables false
set_option linter.unusedSimpArgs false
open Go.RowKit Go.Sort

theorem value_any (R : Nat) (k z : Int) (s : ByteArray) (a : Nat) (w : World) (hz : fldE k z = 0) (hs : s.size ≤ 200000) (ha : a ≤ s.size) (hR : RdrAt w R s a) :
    Calls Tryd.prog 33 #[.pointer (some ⟨R, 0, none⟩), .agg #[.int .i64 k, .int .i64 z]] w (ValPost (decF k z ((bl s).drop a)) R s a w) := by
  obtain ⟨h0, h4, _, _⟩ := fldE_zero hz
  have : k = 0 ∨ k = 1 ∨ k = 2 ∨ k = 3 ∨ k = 4 := by omega
  rcases this with rfl | rfl | rfl | rfl | rfl
  · by_cases h : (s.size : Int) - a < z
    · exact value_short0 R z s a w hz hs ha hR h
    · exact value_num R z s a w hz hs ha hR (by omega)
  · by_cases h : (s.size : Int) - a < z
    · exact value_short1 R z s a w hz hs ha hR h
    · exact value_fixed R z s a w hz hs ha hR (by omega)
  · by_cases h : a = s.size
    · exact value_empty2 R z s a w hz hs h hR
    · have h' : a < s.size := by omega
      by_cases h2 : (s.size : Int) < a + 1 + s[a].toNat
      · exact value_end2 R z s a w hz hs h' hR h2
      · by_cases h3 : z < s[a].toNat
        · exact value_large2 R z s a w hz hs h' hR (by omega) h3
        · exact value_full2 R z s a w hz hs h' hR (by omega) (by omega)
  · by_cases h : a = s.size
    · exact value_empty3 R z s a w hz hs h hR
    · have h' : a < s.size := by omega
      by_cases h2 : (s.size : Int) < a + 1 + 2 * s[a].toNat
      · exact value_end3 R z s a w hz hs h' hR h2
      · by_cases h3 : z < s[a].toNat
        · exact value_large3 R z s a w hz hs h' hR (by omega) h3
        · exact value_full3 R z s a w hz hs h' hR (by omega) (by omega)
  · by_cases h : (s.size : Int) - a < z
    · exact value_short4 R z s a w hz hs ha hR h
    · exact value_zero R z s a w hz hs ha hR (by omega)

/-- what value has left, as a tuple, as the value alone -/
def RV (tup : Bool) (R : Nat) (s : ByteArray) (a B : Nat) (D : DV × Nat × Int) (_ : Act) (v : Value) (X : World) : Prop :=
  ∃ A c, v = (if tup = true then .tuple #[.agg #[.int .i64 D.1.n, .string D.1.s, .slice A D.1.ns.length c], .int .i64 D.2.2] else .agg #[.int .i64 D.1.n, .string D.1.s, .slice A D.1.ns.length c]) ∧
    X.ownsRow B 3 1 (.slice A D.1.ns.length c) D.1.ns.length (D.1.ns.map (.int .i64)) ∧ (D.2.2 = 0 → RdrAt X R s ((a + D.2.1 : Nat) : Int))
theorem RV.stable {tup : Bool} {R : Nat} {s : ByteArray} {a B : Nat} {D : DV × Nat × Int} (g : Act) (v : Value) (X X' : World) (h : RV tup R s a B D g v X) (hb : Below X.heap.size X X') : RV tup R s a B D g v X' := by
  obtain ⟨A, c, h1, h2, h3⟩ := h; exact ⟨A, c, h1, ownsRow_below h2 hb, fun e => (h3 e).below hb⟩
theorem RV.boxes {tup : Bool} {R : Nat} {s : ByteArray} {a B : Nat} {D : DV × Nat × Int} {B' : Nat} (hR : R < B') (g : Act) (v : Value) (X X' : World) (h : RV tup R s a B D g v X) (hb : Grw (BoxesO B' 47) X X') : RV tup R s a B D g v X' := by
  obtain ⟨A, c, h1, h2, h3⟩ := h; exact ⟨A, c, h1, ownsRow_boxes h2 hb (by decide), fun e => (h3 e).grw hb (fun ⟨h, _⟩ => by omega)⟩
theorem ValPost.leaves {D : DV × Nat × Int} {R : Nat} {s : ByteArray} {a : Nat} {w w' : World} {e : Ending} (h : ValPost D R s a w e w') : ∃ v, e = .returned v ∧ Grw (fun b _ => b = R) w w' ∧ ∀ B g, B ≤ w.heap.size → RV true R s a B D g v w' := by
  obtain ⟨⟨n, t, A, c, ns⟩, h1, h2, h3, h4, h5⟩ := h
  have e1 : D.1 = ⟨n, t, ns⟩ := h2.symm
  refine ⟨_, h1, h5, fun B g hB => ⟨A, c, ?_, ?_, h4⟩⟩
  · rw [e1]; rfl
  · rw [e1]; exact ownsRow_mono h3 hB

/-- a value beside the row v, not in block R -/
def VInR (R : Nat) (w : World) (v : Value) (x : VC) : Prop := VIn w v x ∧ ∀ b o, x.A = some ⟨b, o, none⟩ → b ≠ R
theorem RdA.grw {O : Nat → Option Obj → Prop} {w w' : World} {v : Value} {A : Option Addr} {xs : List Value} (h : RdA w v A xs) (hb : Grw O w w') (hO : ∀ b o, A = some ⟨b, o, none⟩ → b < w.heap.size → ¬ O b w.heap[b]?) : RdA w' v A xs := fun j u hj => by
  obtain ⟨b, o, h1, h2, h3, h4⟩ := h j u hj
  exact ⟨b, o, h1, Nat.lt_of_lt_of_le h2 hb.size, h3, (World.cell?_of_block (w := w) (a := ⟨b, o + j, none⟩) (hb.block b h2 (hO b o h1 h2))).trans h4⟩
theorem ownsRow_grw {O : Nat → Option Obj → Prop} {w w' : World} {base : Nat} {e : TypeId} {size n : Nat} {v : Value} {xs : List Value} (h : w.ownsRow base e size v n xs) (hb : Grw O w w') (hO : ∀ b, v.ownBlock = some b → ¬ O b w.heap[b]?) : w'.ownsRow base e size v n xs := by
  refine ⟨h.1, ?_⟩
  rcases h.2 with h' | ⟨b, cap, cur, h1, h2, h3, h4⟩
  · exact .inl h'
  · exact .inr ⟨b, cap, cur, h1, h2, (hb.block b (Array.getElem?_eq_some_iff.1 h3).1 (hO b (by rw [h1]; rfl))).trans h3, h4⟩

theorem firstE_two (a b : Int) : firstE [a, b] = if a = 0 then b else a := by
  unfold firstE firstE firstE
  split
  · split
    · rename_i h; exact h.symm
    · rfl
  · rfl
set_option maxRecDepth 100000 in
theorem DecodeFields_bad (A : Option Addr) (c : Nat) (l : List Fld) (s : ByteArray) (w : World) (hlen : l.length ≤ maxLen) (hs : s.size ≤ maxLen) (hr : Rd w w.heap.size A (fldsV l)) (h : firstE [(layP l).2, strE s] ≠ 0) :
    Calls Tryd.prog 11 #[.slice A l.length c, .string s] w (DecAll (decP l s) w) := by
  have hd : decP l s = ([], 0, firstE [(layP l).2, strE s]) := by
    rw [firstE_two] at h ⊢
    unfold decP
    by_cases h1 : (layP l).2 = 0
    · rw [if_neg (by simpa using h1), if_pos h1]; rw [if_pos h1] at h; rw [if_pos h]
    · rw [if_pos (by simpa using h1), if_neg h1]
  have h1 : (firstE [(layP l).2, strE s] != 0) = true := by simpa using h
  have HD := Lib.hid hd
  have HR := Lib.hid hr
  have HL := Lib.hid hlen
  have HS := Lib.hid hs
  clear h hd hr hlen hs
  go_enter Tryd.func11, Tryd.ntmps11
  go_wp2_with (first | (go_at_call 18; refine (CheckLayout_any A c l _ HL.out HR.out).mono ?_; rintro e W1 ⟨rfl, hbW1⟩; obtain ⟨hcW1, hfW1⟩ := bcell hbW1) | (go_at_call 32; refine (stringErr_any s _ HS.out).mono ?_; rintro e w' ⟨rfl, rfl⟩) | (go_at_call 31; refine (first_list [_, _] _ (by simp)).mono ?_; rintro e w' ⟨rfl, rfl⟩))
  go_ret3
  exact DecAll.none (bel_alloc hbW1 _) HD.out

set_option maxRecDepth 100000 in
set_option maxHeartbeats 2000000 in
theorem DecodeFields_ok (A : Option Addr) (c : Nat) (l : List Fld) (s : ByteArray) (w : World) (hr : Rd w w.heap.size A (fldsV l)) (h : (layP l).2 = 0) (hs : s.size ≤ 200000) :
    Calls Tryd.prog 11 #[.slice A l.length c, .string s] w (DecAll (decP l s) w) := by
  have h0 : strE s = 0 := strE_zero.2 hs
  have hd : decP l s = decG (bl s) l [] 0 := by unfold decP; rw [if_neg (by simpa using h), if_neg (by simpa using h0)]
  have h1' : (firstE [(layP l).2, strE s] != 0) = false := by rw [firstE_two, h, h0]; rfl
  obtain ⟨hl24, hfz⟩ := layP_zero h
  obtain ⟨i0, hi, hz0, hz1, hz2⟩ := info_parts info_bv
  have HL : Hid (l.length ≤ maxLen) := Lib.hid (by unfold maxLen; omega)
  have HS : Hid (s.size ≤ maxLen) := Lib.hid (by unfold maxLen; omega)
  have HR := Lib.hid hr
  have HFZ := Lib.hid hfz
  have HD := Lib.hid hd
  clear hr h hfz hd h0
  go_enter Tryd.func11, Tryd.ntmps11
  go_wp2_with (first | (go_at_call 18; refine (CheckLayout_any A c l _ HL.out HR.out).mono ?_; rintro e W1 ⟨rfl, hbW1⟩; obtain ⟨hcW1, hfW1⟩ := bcell hbW1) | (go_at_call 32; refine (stringErr_any s _ HS.out).mono ?_; rintro e w' ⟨rfl, rfl⟩) | (go_at_call 31; refine (first_list [_, _] _ (by simp)).mono ?_; rintro e w' ⟨rfl, rfl⟩))
  obtain ⟨R, hRe⟩ : ∃ R, R = W1.heap.size + 1 := ⟨_, rfl⟩
  have hwR : w.heap.size < R := by have := hbW1.size; omega
  have hrd0 : RdrAt ((W1.alloc (.cells #[.int .i64 (layP l).2, .int .i64 (strE s)] 26)).alloc (.cells #[.string s, .int .i64 0] 72)) R s ((0 : Nat) : Int) := by
    have h := Box.new (W1.alloc (.cells #[.int .i64 (layP l).2, .int .i64 (strE s)] 26)) #[.string s, .int .i64 0] 72
    rw [World.size_alloc, ← hRe] at h
    exact h
  have hb0 : Below w.heap.size w ((W1.alloc (.cells #[.int .i64 (layP l).2, .int .i64 (strE s)] 26)).alloc (.cells #[.string s, .int .i64 0] 72)) := bel_alloc (bel_alloc hbW1 _) _
  have HB0 := Lib.hid hb0
  have HRD0 := Lib.hid hrd0
  rw [← hRe]
  clear hb0 hrd0 hbW1 hcW1 hfW1 hRe
  go_loopw [10, 33] (fun v i wr => ∃ (k : Nat) (vs : List VC) (a : Nat), k ≤ l.length ∧ i = .int .i64 k ∧ a ≤ s.size ∧ Below w.heap.size w wr ∧ RdrAt wr R s (a : Int) ∧ decP l s = decG (bl s) (l.drop k) (vs.map dvOf) a ∧ vs.length = k ∧
    wr.ownsRow (R + 1) 47 3 v k (vcsV vs) ∧ ∀ x ∈ vs, VInR R wr v x) (fun _ i _ => l.length - (intOf i).toNat)
  case atStart => exact ⟨0, [], 0, Nat.zero_le _, rfl, Nat.zero_le _, HB0.out, HRD0.out, HD.out, rfl, World.ownsRow_nil _ _ _ _, fun x hx => absurd hx (List.not_mem_nil)⟩
  case round =>
    obtain ⟨k, vs, a, hk, rfl, ha, hb, hrd, hf, hvl, hown, hin⟩ := hrel
    have hbs := hb.size
    by_cases hlt : k < l.length
    · obtain ⟨b, o, rfl, hB, hc⟩ := (HR.out.below hb).opened (by rw [fldsV_length]; omega)
      obtain ⟨g0, g1⟩ := fldsV_get l k hlt
      have d0 : wr.cell? ⟨b, o + k * 2, none⟩ = _ := hc _ _ g0
      have d1 : wr.cell? ⟨b, o + k * 2 + 1, none⟩ = _ := hc _ _ g1
      have hfe := HFZ.out k hlt
      have hdr : l.drop k = l[k] :: l.drop (k + 1) := List.drop_eq_getElem_cons hlt
      obtain ⟨fk, z, hfk⟩ : ∃ x y, ((x, y) : Fld) = l[k] := ⟨_, _, rfl⟩
      rw [← hfk] at d0 d1 hfe hdr
      dsimp only at d0 d1 hfe
      rw [hdr] at hf
      have hdl := decF_len (k := fk) (L := (bl s).drop a) (fld_bd hfe).1
      unfold decG at hf
      dsimp only at hf
      have hsz := decF_sz fk z ((bl s).drop a)
      obtain ⟨D, hD⟩ : ∃ D, D = decF fk z ((bl s).drop a) := ⟨_, rfl⟩
      have hcall : ∀ W, RdrAt W R s (a : Int) → Calls Tryd.prog 33 #[.pointer (some ⟨R, 0, none⟩), .agg #[.int .i64 fk, .int .i64 z]] W (ValPost D R s a W) := fun W h => by
        rw [hD]; exact value_any R fk z s a W hfe hs ha h
      rw [← hD] at hf hdl hsz
      have HSZ1 : Hid (D.1.s.size ≤ maxLen) := Lib.hid (by have := hsz.1; rw [List.length_drop, bl_length] at this; unfold maxLen; omega)
      have HSZ2 : Hid (D.1.ns.length ≤ maxLen) := Lib.hid (by unfold maxLen; omega)
      have hdl2 : D.2.2 = 0 → D.2.1 ≤ s.size - a := fun h => by have := hdl h; rw [List.length_drop, bl_length] at this; exact this
      have HF := Lib.hid hf
      have HIN := Lib.hid hin
      have HOWN := Lib.hid hown
      have HC := Lib.hid hcall
      have HDL := Lib.hid hdl2
      have HVL := Lib.hid hvl
      have hbw : b < wr.heap.size := by omega
      have hRl := hrd.lt
      have HRD := Lib.hid hrd
      clear hD hcall hdl hdl2 hsz hf hin hown hvl hfk hdr g0 g1 hc hfe hrd
      have hrb := HRD.out.old (.cells #[.int .i64 fk, .int .i64 z] 44)
      have HRB := Lib.hid hrb
      clear hrb
      by_cases hz : D.2.2 = 0
      · have hz' : (D.2.2 != 0) = false := by simp [hz]
        have HZ := Lib.hid hz
        have hdl := HDL.out hz
        have hf := HF.out
        rw [if_neg (by simpa using hz)] at hf
        have HF2 := Lib.hid hf
        clear hz hf
        go_wp2_with (first
          | (go_at_call 33; refine (HC.out _ HRB.out).mono ?_; intro e W2 hp; obtain ⟨⟨n, t, A1, c1, ns⟩, he, hv1, ho1, hr1, hg1⟩ := hp; subst he; dsimp only at ho1; have hgs := hg1.size; (simp only [World.size_alloc] at hgs); have HV1 := Lib.hid hv1; have HO1 := Lib.hid ho1; have HR1 := Lib.hid (hr1 HZ.out); have HG1 := Lib.hid hg1; clear hv1 ho1 hr1 hg1)
          | (at_builtin; refine wpList_append_rd _ rfl (.tmp 46) (.tmp 48) 23 rfl (R + 1) 47 i0 _ 3 48 Tryd.underlying23 hi hz0 hz1 hz2 rfl (by decide) _ k (vcsV vs) rfl (((ownsRow_grw (HOWN.out.alloc _) HG1.out (fun b hb e => own_not (HOWN.out) (Nat.lt_succ_self R) (by rw [hb, e]))).alloc _).alloc _) (W2.heap.size + 1 + 1) (some ⟨W2.heap.size + 1, 0, none⟩) 1 1 [.int .i64 n, .string t, .slice A1 ns.length c1] rfl rfl (by have h := Rd.of_block (heap_alloc_new (W2.alloc (.cells #[.int .i64 n, .string t, .slice A1 ns.length c1] 47)) (.cells #[.int .i64 n, .string t, .slice A1 ns.length c1] 47)); simp only [World.size_alloc] at h; exact h) (by intro u hu; simp at hu; rcases hu with rfl | rfl | rfl <;> rfl) (by unfold maxLen; omega) (by omega) (by simp; omega) ?_; intro v' w1 hown1 hgrow hown hbel))
        have hR1 : RdrAt w1 R s ((a + D.2.1 : Nat) : Int) := ((HR1.out.old _).old _).grown hgrow (own_not HOWN.out (Nat.lt_succ_self R))
        have hBX : Below w.heap.size w ((W2.alloc (.cells #[.int .i64 n, .string t, .slice A1 ns.length c1] 47)).alloc (.cells #[.int .i64 n, .string t, .slice A1 ns.length c1] 47)) := bel_alloc (bel_alloc (HG1.out.to_below (bel_alloc hb _) (fun b o e => by omega)) _) _
        have hin1 : ∀ x ∈ vs ++ [⟨n, t, A1, c1, ns⟩], VInR R w1 v' x := fun x hx => by
          rcases List.mem_append.1 hx with hx | hx
          · obtain ⟨⟨q1, q2, q3⟩, q4⟩ := HIN.out x hx
            refine ⟨⟨q1, q2, ?_⟩, q4⟩
            exact ((((q3.below (bel_alloc (Below.refl _ _) _)).grw HG1.out (fun b o hA _ e => q4 b o hA e)).below (bel_alloc (Below.refl _ _) _)).below (bel_alloc (Below.refl _ _) _)).grown hgrow hown
          · obtain rfl := List.mem_singleton.1 hx
            have e1 := HV1.out
            unfold dvOf at e1
            have hs1 := HSZ1.out
            have hs2 := HSZ2.out
            rw [← e1] at hs1 hs2
            refine ⟨⟨hs1, hs2, ?_⟩, ?_⟩
            · exact (((RdA.fresh (w := wr.alloc (.cells #[.int .i64 fk, .int .i64 z] 44)) (fun g hg => by have := (HOWN.out.lt g hg).2; simp; omega) HO1.out).below (bel_alloc (Below.refl _ _) _)).below (bel_alloc (Below.refl _ _) _)).grown hgrow hown
            · intro b o hA e
              have hA' : A1 = some ⟨b, o, none⟩ := hA
              have := (HO1.out.lt b (by rw [hA']; rfl)).1
              simp at this
              omega
        have hown2 : w1.ownsRow (R + 1) 47 3 v' (k + 1) (vcsV (vs ++ [⟨n, t, A1, c1, ns⟩])) := by rw [vcsV_snoc]; exact hown1
        have hb1 : Below w.heap.size w w1 := hBX.trans (hbel.mono (by omega))
        have HIN1 := Lib.hid hin1
        have HOWN2 := Lib.hid hown2
        have HR1' := Lib.hid hR1
        clear hin1 hown2 hown1 hgrow hown hbel hR1 hBX
        go_wp2
        go_roundw
        case rel => exact ⟨k + 1, vs ++ [⟨n, t, A1, c1, ns⟩], a + D.2.1, by omega, by go_num, by omega, hb1, HR1'.out, by rw [HF2.out, List.map_append, ← HV1.out]; rfl, by rw [List.length_append, HVL.out]; rfl, HOWN2.out, HIN1.out⟩
        case measure => simp [intOf]; omega
      · have hz' : (D.2.2 != 0) = true := by simp [hz]
        have hf := HF.out
        rw [if_pos (by simpa using hz)] at hf
        have HF2 := Lib.hid hf
        clear hz hf
        go_wp2_with (go_at_call 33; refine (HC.out _ HRB.out).mono ?_; intro e W2 hp; obtain ⟨⟨n, t, A1, c1, ns⟩, he, hv1, ho1, hr1, hg1⟩ := hp; subst he; have HG1 := Lib.hid hg1; clear hv1 ho1 hr1 hg1)
        go_ret3
        exact DecAll.none (bel_alloc (HG1.out.to_below (bel_alloc hb _) (fun b o e => by omega)) _) HF2.out
    · obtain rfl : k = l.length := by omega
      obtain ⟨A', c', rfl, hrd'⟩ := ownsRow_form hown
      rw [List.drop_length] at hf
      have hx := hrd.cells
      have c0 : wr.cell? ⟨R, 0, none⟩ = some (.string s) := hx 0
      have c1 : wr.cell? ⟨R, 1, none⟩ = some (.int .i64 a) := hx 1
      have HF := Lib.hid hf
      have HIN := Lib.hid hin
      have HVL := Lib.hid hvl
      clear hf hown hin hvl hx hrd
      go_wp2
      go_quiet (fail)
      go_wp2
      go_ret3
      refine ⟨A', c', vs, ?_, ?_, hrd', fun x hx => (HIN.out x hx).1.ok, bel_drewN hb _⟩
      · rw [HF.out, HVL.out]; rfl
      · rw [HF.out]; rfl

theorem DecodeFields_any (A : Option Addr) (c : Nat) (l : List Fld) (s : ByteArray) (w : World) (hlen : l.length ≤ maxLen) (hs : s.size ≤ maxLen) (hr : Rd w w.heap.size A (fldsV l)) :
    Calls Tryd.prog 11 #[.slice A l.length c, .string s] w (DecAll (decP l s) w) := by
  by_cases h : firstE [(layP l).2, strE s] = 0
  · rw [firstE_two] at h
    by_cases h1 : (layP l).2 = 0
    · rw [if_pos h1] at h
      exact DecodeFields_ok A c l s w hr h1 (strE_zero.1 h)
    · rw [if_neg h1] at h; exact absurd h h1
  · exact DecodeFields_bad A c l s w hlen hs hr h
end Go.Proofs.YtiomfkgbaemmkaaDoor
