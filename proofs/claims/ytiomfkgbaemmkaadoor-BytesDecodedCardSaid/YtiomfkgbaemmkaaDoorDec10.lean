/-
  Chapter 1: the reader's value of a field.
-/
import Derived.Test.YtiomfkgbaemmkaaDoorDec9
namespace Go.Proofs.YtiomfkgbaemmkaaDoor
set_option linter.unusedVariables false
set_option linter.unusedSimpArgs false
open Go.RowKit Go.Sort

theorem dz_nil {α : Type} (p : α → Bool) : ∀ l : List α, l.dropWhile p = [] ↔ ∀ x ∈ l, p x = true
  | [] => by simp
  | a :: l => by
    rw [List.dropWhile_cons]
    cases h : p a
    · simp [h]
    · simp only [if_true, dz_nil p l, List.mem_cons, forall_eq_or_imp, h, true_and]
theorem dz_head {α : Type} (p : α → Bool) : ∀ (l : List α) (x : α) (r : List α), l.dropWhile p = x :: r → p x = false
  | [], x, r, h => by simp at h
  | a :: l, x, r, h => by
    rw [List.dropWhile_cons] at h
    cases hp : p a
    · rw [hp, if_neg (by decide)] at h; injection h with h1 _; rw [← h1]; exact hp
    · rw [hp, if_pos rfl] at h; exact dz_head p l x r h
theorem dz_mem {α : Type} (p : α → Bool) : ∀ (l : List α) (x : α), x ∈ l.dropWhile p → x ∈ l
  | [], x, h => by simp at h
  | a :: l, x, h => by
    rw [List.dropWhile_cons] at h
    cases hp : p a
    · rw [hp, if_neg (by decide)] at h; exact h
    · rw [hp, if_pos rfl] at h; exact List.mem_cons_of_mem _ (dz_mem p l x h)
theorem trimRight_zB (l : List UInt8) : (l.reverse.dropWhile (· == 0)).reverse.dropWhile (· == 0) = [] ↔ zB l = true := by
  unfold zB
  rw [List.all_eq_true, dz_nil]
  constructor
  · intro h b hb
    cases hd : l.reverse.dropWhile (· == 0) with
    | nil => exact (dz_nil _ _).1 hd b (List.mem_reverse.2 hb)
    | cons x r =>
      have h1 := dz_head _ _ _ _ hd
      have h2 := h x (by rw [hd]; simp)
      rw [h1] at h2; cases h2
  · intro h x hx
    exact h x (List.mem_reverse.1 (dz_mem _ _ _ (List.mem_reverse.1 hx)))


/-- what value has laid: the field, the result, the value; and the reader -/
structure VS (w : World) (R : Nat) (k z : Int) (s : ByteArray) (a : Int) (cs : Array Value) (W : World) : Prop where
  grw : Grw (fun b _ => b = R) w W
  f : Box W w.heap.size #[.int .i64 k, .int .i64 z] 44
  o : Box W (w.heap.size + 1) #[.int .i64 0, .string ⟨#[]⟩, .slice none 0 0] 47
  v : Box W (w.heap.size + 2) cs 47
  r : RdrAt W R s a
section
variable {w W W' : World} {R : Nat} {k z : Int} {s : ByteArray} {a a' : Int} {cs cs' : Array Value}
theorem VS.below (h : VS w R k z s a cs W) (hb : Below W.heap.size W W') : VS w R k z s a cs W' := ⟨h.grw.trans (Grw.of_below hb), h.f.below hb, h.o.below hb, h.v.below hb, h.r.below hb⟩
theorem VS.take (h : VS w R k z s a cs W) (hR : R < w.heap.size) (hg : Grw (fun b _ => b = R) W W') (hr : RdrAt W' R s a') : VS w R k z s a' cs W' :=
  ⟨h.grw.trans hg, h.f.grw hg (by intro e; omega), h.o.grw hg (by intro e; omega), h.v.grw hg (by intro e; omega), hr⟩
theorem VS.alloc (h : VS w R k z s a cs W) (o : Obj) : VS w R k z s a cs (W.alloc o) := h.below (bel_alloc (Below.refl _ _) _)
theorem VS.setv (h : VS w R k z s a cs W) (hR : R < w.heap.size) (hg : Grw (fun b _ => b = w.heap.size + 2) W W') (hv : Box W' (w.heap.size + 2) cs' 47) : VS w R k z s a cs' W' :=
  ⟨h.grw.own hg (by omega), h.f.grw hg (by intro e; omega), h.o.grw hg (by intro e; omega), hv, h.r.grw hg (by intro e; omega)⟩
theorem VS.facts (h : VS w R k z s a cs W) : W.cell? ⟨w.heap.size, 0, none⟩ = some (.int .i64 k) ∧ W.cell? ⟨w.heap.size, 1, none⟩ = some (.int .i64 z) ∧ (w.heap.size < W.heap.size ∧ w.heap.size + 1 < W.heap.size ∧ w.heap.size + 2 < W.heap.size) ∧ (∀ j, W.cell? ⟨w.heap.size + 2, j, none⟩ = cs[j]?) :=
  ⟨h.f.cells 0, h.f.cells 1, ⟨h.f.lt, h.o.lt, h.v.lt⟩, h.v.cells⟩
theorem VS.start (w : World) (R : Nat) (hR : RdrAt w R s a) : VS w R k z s a #[.int .i64 0, .string ⟨#[]⟩, .slice none 0 0] (((w.alloc (.cells #[.int .i64 k, .int .i64 z] 44)).alloc (.cells #[.int .i64 0, .string ⟨#[]⟩, .slice none 0 0] 47)).alloc (.cells #[.int .i64 0, .string ⟨#[]⟩, .slice none 0 0] 47)) := by
  have h1 := Box.new w #[.int .i64 k, .int .i64 z] 44
  have h2 := Box.new (w.alloc (.cells #[.int .i64 k, .int .i64 z] 44)) #[.int .i64 0, .string ⟨#[]⟩, .slice none 0 0] 47
  have h3 := Box.new ((w.alloc (.cells #[.int .i64 k, .int .i64 z] 44)).alloc (.cells #[.int .i64 0, .string ⟨#[]⟩, .slice none 0 0] 47)) #[.int .i64 0, .string ⟨#[]⟩, .slice none 0 0] 47
  simp only [World.size_alloc] at h2 h3
  exact ⟨Grw.of_below (bel_alloc (bel_alloc (bel_alloc (Below.refl _ _) _) _) _), (h1.old _).old _, h2.old _, h3, ((hR.old _).old _).old _⟩
end
def ValPost (D : DV × Nat × Int) (R : Nat) (s : ByteArray) (a : Nat) (w : World) (e : Ending) (w' : World) : Prop :=
  ∃ v : VC, e = .returned (.tuple #[.agg #[.int .i64 v.n, .string v.s, .slice v.A v.ns.length v.c], .int .i64 D.2.2]) ∧ dvOf v = D.1 ∧ w'.ownsRow w.heap.size 3 1 (.slice v.A v.ns.length v.c) v.ns.length (v.ns.map (.int .i64)) ∧
    (D.2.2 = 0 → RdrAt w' R s ((a + D.2.1 : Nat) : Int)) ∧ Grw (fun b _ => b = R) w w'
theorem ValPost.flat {w w' : World} {R : Nat} {s : ByteArray} {a : Nat} (n : Int) (t : ByteArray) (m : Nat) (er : Int) {k z : Int} {x : Int} {cs : Array Value} {W : World} (h : VS w R k z s x cs W) (hR : R < w.heap.size) (hg : Grw (fun b _ => b = w.heap.size + 1) W w') {D : DV × Nat × Int} (hD : D = (⟨n, t, []⟩, m, er)) (hx : er = 0 → x = ((a + m : Nat) : Int)) :
    ValPost D R s a w (.returned (.tuple #[.agg #[.int .i64 n, .string t, .slice none 0 0], .int .i64 er])) w' := by
  subst hD
  refine ⟨⟨n, t, none, 0, []⟩, rfl, rfl, World.ownsRow_nil _ _ _ _, fun he => ?_, h.grw.own hg (by omega)⟩
  rw [← hx he]
  exact h.r.grw hg (by intro e; omega)

set_option maxRecDepth 100000 in
theorem value_short0 (R : Nat) (z : Int) (s : ByteArray) (a : Nat) (w : World) (hz : fldE 0 z = 0) (hs : s.size ≤ 200000) (ha : a ≤ s.size) (hR : RdrAt w R s a) (h : (s.size : Int) - a < z) :
    Calls Tryd.prog 33 #[.pointer (some ⟨R, 0, none⟩), .agg #[.int .i64 0, .int .i64 z]] w (ValPost (decF 0 z ((bl s).drop a)) R s a w) := by
  have hd : decF 0 z ((bl s).drop a) = (⟨0, ⟨#[]⟩, []⟩, 0, 37) := by unfold decF; rw [if_neg (by omega), if_pos (by rw [List.length_drop, bl_length]; omega)]; rfl
  have HD := Lib.hid hd
  have hop : opn 0 = false := rfl
  have HRlt := Lib.hid hR.lt
  have HR := Lib.hid hR
  have ha2 : 0 ≤ (a : Int) ∧ (a : Int) ≤ 200000 := by omega
  obtain ⟨hz0, hz1⟩ := fld_bd hz
  have hc2 : 0 ≤ z ∧ z ≤ 200000 := by omega
  have hno := h
  have hfe : (firstE [unl false 37, unl true 8] != 0) = true := rfl
  clear hd hz hR h
  go_enter Tryd.func33, Tryd.ntmps33
  go_wp2_with (first | (go_at_call 45; refine (isOpen_any _ _ _).mono ?_; rintro e W1 ⟨rfl, hb1⟩; have q1 := (VS.start (k := 0) (z := z) w R HR.out).below hb1; obtain ⟨x1, y1, ⟨s1a, s1b, s1⟩, v1⟩ := q1.facts; have r1 := q1.r; have HQ1 := Lib.hid q1; clear hb1 q1) | (go_at_call 56; (with_reducible refine (take_no R s a z _ hs ha2 hc2 r1 hno).mono ?_); rintro e W2 ⟨rfl, hb2⟩; have q2 := HQ1.out.below hb2; obtain ⟨x2, y2, ⟨s2a, s2b, s2⟩, v2⟩ := q2.facts; have HQ2 := Lib.hid q2; clear hb2 q2))
  (refine wp_region_btail 7 (by kernel_rfl) (by kernel_rfl) ?_; simp only [List.take_succ_cons, List.take_zero, List.drop_succ_cons, List.drop_zero]; (repeat (go_big_quiet_step ((first | (go_at_call 44; exact Calls.reg_pure (unless_any _ _ _)))))); (with_reducible refine wpQuiet_nil ?_); intro W3 hreg; have hbW3 := below_of_reg hreg; clear hreg; obtain ⟨hcW3, hfW3⟩ := bcell hbW3)
  have q3 := HQ2.out.below hbW3
  obtain ⟨x3, y3, ⟨s3a, s3b, s3⟩, v3⟩ := q3.facts
  have HQ3 := Lib.hid q3
  clear hbW3 hcW3 hfW3 q3
  go_wp2_with (first | (go_at_call 31; refine (first_list [_, _] _ (by simp)).mono ?_; rintro e w' ⟨rfl, rfl⟩) | (refine wpList_store_newG rfl 47 (.tmp 4) (.tmp 50) rfl rfl (w.heap.size + 1) #[.int .i64 0, .string ⟨#[]⟩, .slice none 0 0] rfl rfl 47 _ (HQ3.out.alloc _).o (by kernel_rfl) (by kernel_rfl) (by kernel_rfl) ?_; intro W9 hg9 hr9 _))
  exact bodyPost_ret (results_cell_tmp Tryd.results33 _ W9 (w.heap.size + 1) 47 _ _ _ rfl rfl hr9 Tryd.underlying47 rfl (by kernel_rfl)) rfl (ValPost.flat 0 ⟨#[]⟩ 0 37 (HQ3.out.alloc _) HRlt.out hg9 HD.out (fun h => absurd h (by decide)))
set_option maxRecDepth 100000 in
theorem value_short1 (R : Nat) (z : Int) (s : ByteArray) (a : Nat) (w : World) (hz : fldE 1 z = 0) (hs : s.size ≤ 200000) (ha : a ≤ s.size) (hR : RdrAt w R s a) (h : (s.size : Int) - a < z) :
    Calls Tryd.prog 33 #[.pointer (some ⟨R, 0, none⟩), .agg #[.int .i64 1, .int .i64 z]] w (ValPost (decF 1 z ((bl s).drop a)) R s a w) := by
  have hd : decF 1 z ((bl s).drop a) = (⟨0, ⟨#[]⟩, []⟩, 0, 37) := by unfold decF; rw [if_neg (by omega), if_pos (by rw [List.length_drop, bl_length]; omega)]; rfl
  have HD := Lib.hid hd
  have hop : opn 1 = false := rfl
  have HRlt := Lib.hid hR.lt
  have HR := Lib.hid hR
  have ha2 : 0 ≤ (a : Int) ∧ (a : Int) ≤ 200000 := by omega
  obtain ⟨hz0, hz1⟩ := fld_bd hz
  have hc2 : 0 ≤ z ∧ z ≤ 200000 := by omega
  have hno := h
  have hfe : (firstE [unl false 37, unl true 8] != 0) = true := rfl
  clear hd hz hR h
  go_enter Tryd.func33, Tryd.ntmps33
  go_wp2_with (first | (go_at_call 45; refine (isOpen_any _ _ _).mono ?_; rintro e W1 ⟨rfl, hb1⟩; have q1 := (VS.start (k := 1) (z := z) w R HR.out).below hb1; obtain ⟨x1, y1, ⟨s1a, s1b, s1⟩, v1⟩ := q1.facts; have r1 := q1.r; have HQ1 := Lib.hid q1; clear hb1 q1) | (go_at_call 56; (with_reducible refine (take_no R s a z _ hs ha2 hc2 r1 hno).mono ?_); rintro e W2 ⟨rfl, hb2⟩; have q2 := HQ1.out.below hb2; obtain ⟨x2, y2, ⟨s2a, s2b, s2⟩, v2⟩ := q2.facts; have HQ2 := Lib.hid q2; clear hb2 q2))
  (refine wp_region_btail 7 (by kernel_rfl) (by kernel_rfl) ?_; simp only [List.take_succ_cons, List.take_zero, List.drop_succ_cons, List.drop_zero]; (repeat (go_big_quiet_step ((first | (go_at_call 44; exact Calls.reg_pure (unless_any _ _ _)))))); (with_reducible refine wpQuiet_nil ?_); intro W3 hreg; have hbW3 := below_of_reg hreg; clear hreg; obtain ⟨hcW3, hfW3⟩ := bcell hbW3)
  have q3 := HQ2.out.below hbW3
  obtain ⟨x3, y3, ⟨s3a, s3b, s3⟩, v3⟩ := q3.facts
  have HQ3 := Lib.hid q3
  clear hbW3 hcW3 hfW3 q3
  go_wp2_with (first | (go_at_call 31; refine (first_list [_, _] _ (by simp)).mono ?_; rintro e w' ⟨rfl, rfl⟩) | (refine wpList_store_newG rfl 47 (.tmp 4) (.tmp 50) rfl rfl (w.heap.size + 1) #[.int .i64 0, .string ⟨#[]⟩, .slice none 0 0] rfl rfl 47 _ (HQ3.out.alloc _).o (by kernel_rfl) (by kernel_rfl) (by kernel_rfl) ?_; intro W9 hg9 hr9 _))
  exact bodyPost_ret (results_cell_tmp Tryd.results33 _ W9 (w.heap.size + 1) 47 _ _ _ rfl rfl hr9 Tryd.underlying47 rfl (by kernel_rfl)) rfl (ValPost.flat 0 ⟨#[]⟩ 0 37 (HQ3.out.alloc _) HRlt.out hg9 HD.out (fun h => absurd h (by decide)))
set_option maxRecDepth 100000 in
theorem value_short4 (R : Nat) (z : Int) (s : ByteArray) (a : Nat) (w : World) (hz : fldE 4 z = 0) (hs : s.size ≤ 200000) (ha : a ≤ s.size) (hR : RdrAt w R s a) (h : (s.size : Int) - a < z) :
    Calls Tryd.prog 33 #[.pointer (some ⟨R, 0, none⟩), .agg #[.int .i64 4, .int .i64 z]] w (ValPost (decF 4 z ((bl s).drop a)) R s a w) := by
  have hd : decF 4 z ((bl s).drop a) = (⟨0, ⟨#[]⟩, []⟩, 0, 37) := by unfold decF; rw [if_neg (by omega), if_pos (by rw [List.length_drop, bl_length]; omega)]; rfl
  have HD := Lib.hid hd
  have hop : opn 4 = false := rfl
  have HRlt := Lib.hid hR.lt
  have HR := Lib.hid hR
  have ha2 : 0 ≤ (a : Int) ∧ (a : Int) ≤ 200000 := by omega
  obtain ⟨hz0, hz1⟩ := fld_bd hz
  have hc2 : 0 ≤ z ∧ z ≤ 200000 := by omega
  have hno := h
  have hfe : (firstE [unl false 37, unl true 8] != 0) = true := rfl
  clear hd hz hR h
  go_enter Tryd.func33, Tryd.ntmps33
  go_wp2_with (first | (go_at_call 45; refine (isOpen_any _ _ _).mono ?_; rintro e W1 ⟨rfl, hb1⟩; have q1 := (VS.start (k := 4) (z := z) w R HR.out).below hb1; obtain ⟨x1, y1, ⟨s1a, s1b, s1⟩, v1⟩ := q1.facts; have r1 := q1.r; have HQ1 := Lib.hid q1; clear hb1 q1) | (go_at_call 56; (with_reducible refine (take_no R s a z _ hs ha2 hc2 r1 hno).mono ?_); rintro e W2 ⟨rfl, hb2⟩; have q2 := HQ1.out.below hb2; obtain ⟨x2, y2, ⟨s2a, s2b, s2⟩, v2⟩ := q2.facts; have HQ2 := Lib.hid q2; clear hb2 q2))
  (refine wp_region_btail 7 (by kernel_rfl) (by kernel_rfl) ?_; simp only [List.take_succ_cons, List.take_zero, List.drop_succ_cons, List.drop_zero]; (repeat (go_big_quiet_step ((first | (go_at_call 44; exact Calls.reg_pure (unless_any _ _ _)))))); (with_reducible refine wpQuiet_nil ?_); intro W3 hreg; have hbW3 := below_of_reg hreg; clear hreg; obtain ⟨hcW3, hfW3⟩ := bcell hbW3)
  have q3 := HQ2.out.below hbW3
  obtain ⟨x3, y3, ⟨s3a, s3b, s3⟩, v3⟩ := q3.facts
  have HQ3 := Lib.hid q3
  clear hbW3 hcW3 hfW3 q3
  go_wp2_with (first | (go_at_call 31; refine (first_list [_, _] _ (by simp)).mono ?_; rintro e w' ⟨rfl, rfl⟩) | (refine wpList_store_newG rfl 47 (.tmp 4) (.tmp 50) rfl rfl (w.heap.size + 1) #[.int .i64 0, .string ⟨#[]⟩, .slice none 0 0] rfl rfl 47 _ (HQ3.out.alloc _).o (by kernel_rfl) (by kernel_rfl) (by kernel_rfl) ?_; intro W9 hg9 hr9 _))
  exact bodyPost_ret (results_cell_tmp Tryd.results33 _ W9 (w.heap.size + 1) 47 _ _ _ rfl rfl hr9 Tryd.underlying47 rfl (by kernel_rfl)) rfl (ValPost.flat 0 ⟨#[]⟩ 0 37 (HQ3.out.alloc _) HRlt.out hg9 HD.out (fun h => absurd h (by decide)))

set_option maxRecDepth 100000 in
theorem value_num (R : Nat) (z : Int) (s : ByteArray) (a : Nat) (w : World) (hz : fldE 0 z = 0) (hs : s.size ≤ 200000) (ha : a ≤ s.size) (hR : RdrAt w R s a) (h : z ≤ (s.size : Int) - a) :
    Calls Tryd.prog 33 #[.pointer (some ⟨R, 0, none⟩), .agg #[.int .i64 0, .int .i64 z]] w (ValPost (decF 0 z ((bl s).drop a)) R s a w) := by
  obtain ⟨_, _, z1, z2⟩ := fldE_zero hz
  replace z1 : 1 ≤ z := z1
  replace z2 : z ≤ 6 := z2
  have hfe : (firstE [unl true 37, unl true 8] != 0) = false := rfl
  obtain ⟨zc, rfl⟩ := Int.eq_ofNat_of_zero_le (show 0 ≤ z by omega)
  have hk : a + zc ≤ s.size := by omega
  have e1 : bl (s.extract a (a + zc)) = ((bl s).drop a).take zc := by rw [bl_extract, List.drop_take, Nat.add_sub_cancel_left]
  have hd : decF 0 (zc : Int) ((bl s).drop a) = (⟨num (((bl s).drop a).take zc), ⟨#[]⟩, []⟩, zc, 0) := by unfold decF; rw [if_neg (by omega), if_neg (by rw [List.length_drop, bl_length]; omega), if_pos rfl]; rfl
  have hN : ∀ W, Calls Tryd.prog 57 #[.string (s.extract a (a + zc))] W fun e w' => e = .returned (.int .i64 (num (((bl s).drop a).take zc))) ∧ W = w' := fun W => by
    have := number_any (s.extract a (a + zc)) W (by rw [ByteArray.size_extract]; omega)
    rwa [e1] at this
  have HN := Lib.hid hN
  have HD := Lib.hid hd
  have hop : opn 0 = false := rfl
  have HRlt := Lib.hid hR.lt
  have HR := Lib.hid hR
  have ha2 : 0 ≤ (a : Int) ∧ (a : Int) ≤ 200000 := by omega
  obtain ⟨x, hx⟩ : ∃ x, x = num (((bl s).drop a).take zc) := ⟨_, rfl⟩
  rw [← hx] at HN HD
  clear hd hz hR h hN e1 hx
  go_enter Tryd.func33, Tryd.ntmps33
  go_wp2_with (first | (go_at_call 45; refine (isOpen_any _ _ _).mono ?_; rintro e W1 ⟨rfl, hb1⟩; have q1 := (VS.start (k := 0) (z := zc) w R HR.out).below hb1; obtain ⟨x1, y1, ⟨s1a, s1b, s1⟩, v1⟩ := q1.facts; have r1 := q1.r; have HQ1 := Lib.hid q1; clear hb1 q1) | (go_at_call 56; (with_reducible refine (take_ok R s a zc _ hs r1 hk).mono ?_); rintro e W2 ⟨rfl, hr2, hg2⟩; have q2 := HQ1.out.take HRlt.out hg2 hr2; obtain ⟨x2, y2, ⟨s2a, s2b, s2⟩, v2⟩ := q2.facts; have r2 := q2.r; have HQ2 := Lib.hid q2; clear hr2 hg2 q2))
  (refine wp_region_btail 7 (by kernel_rfl) (by kernel_rfl) ?_; simp only [List.take_succ_cons, List.take_zero, List.drop_succ_cons, List.drop_zero]; (repeat (go_big_quiet_step ((first | (go_at_call 44; exact Calls.reg_pure (unless_any _ _ _)))))); (with_reducible refine wpQuiet_nil ?_); intro W3 hreg; have hbW3 := below_of_reg hreg; clear hreg; obtain ⟨hcW3, hfW3⟩ := bcell hbW3)
  have q3 := HQ2.out.below hbW3
  obtain ⟨x3, y3, ⟨s3a, s3b, s3⟩, v3⟩ := q3.facts
  have HQ3 := Lib.hid q3
  clear hbW3 hcW3 hfW3 q3
  go_wp2_with (first | (go_at_call 31; refine (first_list [_, _] _ (by simp)).mono ?_; rintro e w' ⟨rfl, rfl⟩) | (go_at_call 57; refine (HN.out _).mono ?_; rintro e w' ⟨rfl, rfl⟩) | (refine wpList_store_fieldG rfl 3 (.tmp 60) (.tmp 59) rfl rfl (w.heap.size + 2) 0 (.int .i64 x) rfl rfl rfl (by kernel_rfl) 47 _ (HQ3.out.alloc _).v (by show 0 < 3; omega) ?_; intro W4 hg4 hv4 _; have q4 := (HQ3.out.alloc _).setv HRlt.out hg4 hv4; obtain ⟨x4, y4, ⟨s4a, s4b, s4⟩, v4⟩ := q4.facts; have HQ4 := Lib.hid q4; clear hg4 hv4 q4) | (refine wpList_store_newG rfl 47 (.tmp 4) (.tmp 84) rfl rfl (w.heap.size + 1) #[.int .i64 x, .string ⟨#[]⟩, .slice none 0 0] rfl rfl 47 _ (HQ4.out).o (by kernel_rfl) (by kernel_rfl) (by kernel_rfl) ?_; intro W9 hg9 hr9 _))
  exact bodyPost_ret (results_cell_tmp Tryd.results33 _ W9 (w.heap.size + 1) 47 _ _ _ rfl rfl hr9 Tryd.underlying47 rfl (by kernel_rfl)) rfl (ValPost.flat x ⟨#[]⟩ zc 0 HQ4.out HRlt.out hg9 HD.out (fun _ => rfl))

set_option maxRecDepth 100000 in
theorem value_fixed (R : Nat) (z : Int) (s : ByteArray) (a : Nat) (w : World) (hz : fldE 1 z = 0) (hs : s.size ≤ 200000) (ha : a ≤ s.size) (hR : RdrAt w R s a) (h : z ≤ (s.size : Int) - a) :
    Calls Tryd.prog 33 #[.pointer (some ⟨R, 0, none⟩), .agg #[.int .i64 1, .int .i64 z]] w (ValPost (decF 1 z ((bl s).drop a)) R s a w) := by
  obtain ⟨_, _, z1, z2⟩ := fldE_zero hz
  replace z1 : 1 ≤ z := z1
  replace z2 : z ≤ 64 := z2
  have hfe : (firstE [unl true 37, unl true 8] != 0) = false := rfl
  obtain ⟨zc, rfl⟩ := Int.eq_ofNat_of_zero_le (show 0 ≤ z by omega)
  have hk : a + zc ≤ s.size := by omega
  have e1 : bl (s.extract a (a + zc)) = ((bl s).drop a).take zc := by rw [bl_extract, List.drop_take, Nat.add_sub_cancel_left]
  have hd : decF 1 (zc : Int) ((bl s).drop a) = (⟨0, s.extract a (a + zc), []⟩, zc, 0) := by
    unfold decF; rw [if_neg (by omega), if_neg (by rw [List.length_drop, bl_length]; omega), if_neg (by omega), if_pos rfl]
    congr 2
    apply bl_inj; rw [bl_bs, e1]; rfl
  have HD := Lib.hid hd
  have hop : opn 1 = false := rfl
  have HRlt := Lib.hid hR.lt
  have HR := Lib.hid hR
  have ha2 : 0 ≤ (a : Int) ∧ (a : Int) ≤ 200000 := by omega
  clear hd hz hR h e1
  go_enter Tryd.func33, Tryd.ntmps33
  go_wp2_with (first | (go_at_call 45; refine (isOpen_any _ _ _).mono ?_; rintro e W1 ⟨rfl, hb1⟩; have q1 := (VS.start (k := 1) (z := zc) w R HR.out).below hb1; obtain ⟨x1, y1, ⟨s1a, s1b, s1⟩, v1⟩ := q1.facts; have r1 := q1.r; have HQ1 := Lib.hid q1; clear hb1 q1) | (go_at_call 56; (with_reducible refine (take_ok R s a zc _ hs r1 hk).mono ?_); rintro e W2 ⟨rfl, hr2, hg2⟩; have q2 := HQ1.out.take HRlt.out hg2 hr2; obtain ⟨x2, y2, ⟨s2a, s2b, s2⟩, v2⟩ := q2.facts; have r2 := q2.r; have HQ2 := Lib.hid q2; clear hr2 hg2 q2))
  (refine wp_region_btail 7 (by kernel_rfl) (by kernel_rfl) ?_; simp only [List.take_succ_cons, List.take_zero, List.drop_succ_cons, List.drop_zero]; (repeat (go_big_quiet_step ((first | (go_at_call 44; exact Calls.reg_pure (unless_any _ _ _)))))); (with_reducible refine wpQuiet_nil ?_); intro W3 hreg; have hbW3 := below_of_reg hreg; clear hreg; obtain ⟨hcW3, hfW3⟩ := bcell hbW3)
  have q3 := HQ2.out.below hbW3
  obtain ⟨x3, y3, ⟨s3a, s3b, s3⟩, v3⟩ := q3.facts
  have HQ3 := Lib.hid q3
  clear hbW3 hcW3 hfW3 q3
  go_wp2_with (first | (go_at_call 31; refine (first_list [_, _] _ (by simp)).mono ?_; rintro e w' ⟨rfl, rfl⟩) | (refine wpList_store_fieldG rfl 9 (.tmp 55) (.tmp 54) rfl rfl (w.heap.size + 2) 1 (.string (s.extract a (a + zc))) rfl rfl rfl (by kernel_rfl) 47 _ (HQ3.out.alloc _).v (by show 1 < 3; omega) ?_; intro W4 hg4 hv4 _; have q4 := (HQ3.out.alloc _).setv HRlt.out hg4 hv4; obtain ⟨x4, y4, ⟨s4a, s4b, s4⟩, v4⟩ := q4.facts; have HQ4 := Lib.hid q4; clear hg4 hv4 q4) | (refine wpList_store_newG rfl 47 (.tmp 4) (.tmp 84) rfl rfl (w.heap.size + 1) #[.int .i64 0, .string (s.extract a (a + zc)), .slice none 0 0] rfl rfl 47 _ (HQ4.out).o (by kernel_rfl) (by kernel_rfl) (by kernel_rfl) ?_; intro W9 hg9 hr9 _))
  exact bodyPost_ret (results_cell_tmp Tryd.results33 _ W9 (w.heap.size + 1) 47 _ _ _ rfl rfl hr9 Tryd.underlying47 rfl (by kernel_rfl)) rfl (ValPost.flat 0 _ zc 0 HQ4.out HRlt.out hg9 HD.out (fun _ => rfl))

set_option maxRecDepth 100000 in
theorem value_zero (R : Nat) (z : Int) (s : ByteArray) (a : Nat) (w : World) (hz : fldE 4 z = 0) (hs : s.size ≤ 200000) (ha : a ≤ s.size) (hR : RdrAt w R s a) (h : z ≤ (s.size : Int) - a) :
    Calls Tryd.prog 33 #[.pointer (some ⟨R, 0, none⟩), .agg #[.int .i64 4, .int .i64 z]] w (ValPost (decF 4 z ((bl s).drop a)) R s a w) := by
  obtain ⟨_, _, z1, z2⟩ := fldE_zero hz
  replace z1 : 1 ≤ z := z1
  replace z2 : z ≤ 64 := z2
  have hfe : (firstE [unl true 37, unl true 8] != 0) = false := rfl
  obtain ⟨zc, rfl⟩ := Int.eq_ofNat_of_zero_le (show 0 ≤ z by omega)
  have hk : a + zc ≤ s.size := by omega
  have e1 : bl (s.extract a (a + zc)) = ((bl s).drop a).take zc := by rw [bl_extract, List.drop_take, Nat.add_sub_cancel_left]
  have hd : decF 4 (zc : Int) ((bl s).drop a) = (⟨0, ⟨#[]⟩, []⟩, (if zB (((bl s).drop a).take zc) = true then zc else 0), unl (zB (((bl s).drop a).take zc)) 3) := by
    unfold decF; rw [if_neg (by omega), if_neg (by rw [List.length_drop, bl_length]; omega), if_neg (by omega), if_neg (by omega)]
    show (if zB (((bl s).drop a).take zc) = true then _ else _) = _
    cases zB (((bl s).drop a).take zc) <;> rfl
  have HD := Lib.hid hd
  have hop : opn 4 = false := rfl
  have HRlt := Lib.hid hR.lt
  have HR := Lib.hid hR
  have ha2 : 0 ≤ (a : Int) ∧ (a : Int) ≤ 200000 := by omega
  have hC : ∀ W, Calls Tryd.prog 58 #[.string (s.extract a (a + zc)), .string ⟨#[0]⟩] W fun e w' => e = .returned (.string ⟨(Lib.trimB (s.extract a (a + zc)).data.toList 0).toArray⟩) ∧ Below W.heap.size W w' := fun W =>
    (Tryd.strings_Trim_one (s.extract a (a + zc)) 0 (by decide) W (by rw [ByteArray.size_extract]; omega)).mono fun e w' ⟨h1, h2⟩ => ⟨h1, by rcases h2 with rfl | rfl; exact Below.refl _ _; exact (Below.refl _ _).drew⟩
  obtain ⟨t, ht⟩ : ∃ t : ByteArray, t = ⟨(Lib.trimB (s.extract a (a + zc)).data.toList 0).toArray⟩ := ⟨_, rfl⟩
  rw [← ht] at hC
  obtain ⟨B, hB⟩ : ∃ B, B = zB (((bl s).drop a).take zc) := ⟨_, rfl⟩
  have e2 : t.toList.isEmpty = B := by
    rw [tl_eq, ht, hB, Bool.eq_iff_iff, List.isEmpty_iff, ← e1]
    exact trimRight_zB (bl (s.extract a (a + zc)))
  rw [← hB] at HD
  have HC := Lib.hid hC
  clear hd hz hR h e1 hC ht hB
  go_enter Tryd.func33, Tryd.ntmps33
  go_wp2_with (first | (go_at_call 45; refine (isOpen_any _ _ _).mono ?_; rintro e W1 ⟨rfl, hb1⟩; have q1 := (VS.start (k := 4) (z := zc) w R HR.out).below hb1; obtain ⟨x1, y1, ⟨s1a, s1b, s1⟩, v1⟩ := q1.facts; have r1 := q1.r; have HQ1 := Lib.hid q1; clear hb1 q1) | (go_at_call 56; (with_reducible refine (take_ok R s a zc _ hs r1 hk).mono ?_); rintro e W2 ⟨rfl, hr2, hg2⟩; have q2 := HQ1.out.take HRlt.out hg2 hr2; obtain ⟨x2, y2, ⟨s2a, s2b, s2⟩, v2⟩ := q2.facts; have r2 := q2.r; have HQ2 := Lib.hid q2; clear hr2 hg2 q2))
  (refine wp_region_btail 7 (by kernel_rfl) (by kernel_rfl) ?_; simp only [List.take_succ_cons, List.take_zero, List.drop_succ_cons, List.drop_zero]; (repeat (go_big_quiet_step ((first | (go_at_call 44; exact Calls.reg_pure (unless_any _ _ _)))))); (with_reducible refine wpQuiet_nil ?_); intro W3 hreg; have hbW3 := below_of_reg hreg; clear hreg; obtain ⟨hcW3, hfW3⟩ := bcell hbW3)
  have q3 := HQ2.out.below hbW3
  obtain ⟨x3, y3, ⟨s3a, s3b, s3⟩, v3⟩ := q3.facts
  have HQ3 := Lib.hid q3
  clear hbW3 hcW3 hfW3 q3
  go_wp2_with (first | (go_at_call 31; refine (first_list [_, _] _ (by simp)).mono ?_; rintro e w' ⟨rfl, rfl⟩))
  have q4 := HQ3.out.alloc (.cells #[.int .i64 (unl true 37), .int .i64 (unl true 8)] 26)
  have HQ4 := Lib.hid q4
  obtain ⟨_, _, ⟨s4a, s4b, s4⟩, v4⟩ := q4.facts
  clear q4
  (refine wp_region_flowS (fun b _ => b = w.heap.size + 1) [false, false, false, false, false, true] [⟨5, [], fun _ => BoxR (w.heap.size + 1) #[.int .i64 0, .string ⟨#[]⟩, .slice none 0 0] 47, true⟩] (by kernel_rfl) (by kernel_rfl) (by kernel_rfl) (by simp) ?_; simp only [pick, List.length_cons, List.length_nil, List.drop_succ_cons, List.drop_zero, Nat.zero_add, Nat.reduceAdd]; apply Exists.intro; refine ⟨fun X hX => ?_, ?_⟩; (focus (have hgX := regcellG hX; have hsX := hX.size; (try simp only [World.size_alloc] at hsX); (repeat (go_big_quiet_step ((first | (go_at_call 58; (with_reducible exact Calls.regrown_of (HC.out _))) | (go_at_call 44; exact Calls.reg_pure (unless_any _ _ _)))))); exact wpQuiet_nil rfl)); simp only [wpNO, told, toldAll, List.contains_cons, List.contains_nil, List.mem_cons, List.not_mem_nil, forall_eq_or_imp, false_implies, implies_true, and_true, Nat.reduceBEq, BEq.rfl, beq_self_eq_true, Bool.or_false, Bool.false_or, Bool.true_or, Bool.or_true, Bool.false_eq_true, if_true, if_false, true_implies, dstAt, List.getElem?_toArray, List.getElem?_cons_succ, List.getElem?_cons_zero, Option.some.injEq, forall_eq', Option.bind_some, Act.put, List.setIfInBounds_toArray, List.set_cons_succ, List.set_cons_zero])
  refine ⟨⟨BoxR.stable, fun h => (by cases h), fun _ _ _ h => h⟩, fun X hX hcalm => ?_, fun v1 X hX hf => ?_⟩
  · exact leaves_store 47 (.tmp 4) (.tmp 79) rfl (w.heap.size + 1) #[.int .i64 0, .string ⟨#[]⟩, .slice none 0 0] rfl rfl 47 _ ((HQ4.out.below hcalm).o) (by kernel_rfl) (by kernel_rfl) (by kernel_rfl)
  have hr9 : Box X (w.heap.size + 1) #[.int .i64 0, .string ⟨#[]⟩, .slice none 0 0] 47 := hf
  clear hf
  go_wp2
  exact bodyPost_ret (results_cell_tmp Tryd.results33 _ X (w.heap.size + 1) 47 _ _ _ rfl rfl hr9 Tryd.underlying47 rfl (by kernel_rfl)) rfl (ValPost.flat 0 ⟨#[]⟩ _ _ HQ4.out HRlt.out hX HD.out (fun h => by cases B; cases h; rfl))
end Go.Proofs.YtiomfkgbaemmkaaDoor
