/-
  Chapter 1: the reference's decoding of a field.
-/
import Derived.Test.YtiomfkgbaemmkaaDoorDec5
import Derived.Test.YtiomfkgbaemmkaaDoorFlowBox
namespace Go.Proofs.YtiomfkgbaemmkaaDoor
set_option linter.unusedVariables false
set_option linter.unusedSimpArgs false
open Go.RowKit Go.Sort

/-- the value of a field, in memory of its own -/
def DecPost (R : DV × Nat × Int) (w : World) (e : Ending) (w' : World) : Prop :=
  ∃ v : VC, e = .returned (.tuple #[.agg #[.int .i64 v.n, .string v.s, .slice v.A v.ns.length v.c], .int .i64 R.2.1, .int .i64 R.2.2]) ∧ dvOf v = R.1 ∧
    w'.ownsRow w.heap.size 3 1 (.slice v.A v.ns.length v.c) v.ns.length (v.ns.map (.int .i64)) ∧ Below w.heap.size w w'
theorem DecPost.flat {w w' : World} (n : Int) (s : ByteArray) (m : Nat) (er : Int) (hb : Below w.heap.size w w') {R : DV × Nat × Int} (h : R = (⟨n, s, []⟩, m, er)) :
    DecPost R w (.returned (.tuple #[.agg #[.int .i64 n, .string s, .slice none 0 0], .int .i64 m, .int .i64 er])) w' := by
  subst h
  exact ⟨⟨n, s, none, 0, []⟩, rfl, rfl, World.ownsRow_nil _ _ _ _, hb⟩

set_option maxRecDepth 100000 in
theorem decodeField_short0 (z : Int) (s : ByteArray) (w : World) (hz : fldE 0 z = 0) (hs : s.size ≤ 200000) (h : (s.size : Int) < z) :
    Calls Tryd.prog 36 #[.agg #[.int .i64 0, .int .i64 z], .string s] w (DecPost (decF 0 z (bl s)) w) := by
  have hd : decF 0 z (bl s) = (⟨0, ⟨#[]⟩, []⟩, 0, 37) := by unfold decF; rw [if_neg (by omega), if_pos (by rw [bl_length]; exact h)]; rfl
  have HD := Lib.hid hd
  have hop : opn 0 = false := rfl
  clear hd hz
  go_enter Tryd.func36, Tryd.ntmps36
  go_wp2_with (first
    | (go_at_call 59; refine (isFixed_any _ _ _).mono ?_; rintro e W1 ⟨rfl, hbW1⟩; obtain ⟨hcW1, hfW1⟩ := bcell hbW1; have hb1 : Below w.heap.size w W1 := (by (repeat (first | assumption | exact Below.refl _ _ | refine bel_drewN ?_ _ | refine bel_alloc ?_ _ | refine bel_trans ?_ (by assumption) | refine Below.trans ?_ (by assumption)))); have ho1 : Box W1 (w.heap.size + 1) #[.int .i64 0, .string ⟨#[]⟩, .slice none 0 0] 47 := (by have h := (Box.new (w.alloc (.cells #[.int .i64 0, .int .i64 z] 44)) #[.int .i64 0, .string ⟨#[]⟩, .slice none 0 0] 47).below hbW1; rw [World.size_alloc] at h; exact h))
    | (refine wpList_store_new rfl 47 (.tmp 4) (.tmp 19) rfl rfl (w.heap.size + 1) #[.int .i64 0, .string ⟨#[]⟩, .slice none 0 0] rfl rfl w hb1 (Nat.le_succ _) 47 _ ho1 (by kernel_rfl) (by kernel_rfl) (by kernel_rfl) ?_; intro W9 hb9 hr9 _))
  exact bodyPost_ret (results_cell_tmp2 Tryd.results36 _ W9 (w.heap.size + 1) 47 _ _ _ _ rfl rfl rfl hr9 Tryd.underlying47 rfl (by kernel_rfl)) rfl (DecPost.flat 0 ⟨#[]⟩ 0 37 hb9 HD.out)
set_option maxRecDepth 100000 in
theorem decodeField_short1 (z : Int) (s : ByteArray) (w : World) (hz : fldE 1 z = 0) (hs : s.size ≤ 200000) (h : (s.size : Int) < z) :
    Calls Tryd.prog 36 #[.agg #[.int .i64 1, .int .i64 z], .string s] w (DecPost (decF 1 z (bl s)) w) := by
  have hd : decF 1 z (bl s) = (⟨0, ⟨#[]⟩, []⟩, 0, 37) := by unfold decF; rw [if_neg (by omega), if_pos (by rw [bl_length]; exact h)]; rfl
  have HD := Lib.hid hd
  have hop : opn 1 = false := rfl
  clear hd hz
  go_enter Tryd.func36, Tryd.ntmps36
  go_wp2_with (first
    | (go_at_call 59; refine (isFixed_any _ _ _).mono ?_; rintro e W1 ⟨rfl, hbW1⟩; obtain ⟨hcW1, hfW1⟩ := bcell hbW1; have hb1 : Below w.heap.size w W1 := (by (repeat (first | assumption | exact Below.refl _ _ | refine bel_drewN ?_ _ | refine bel_alloc ?_ _ | refine bel_trans ?_ (by assumption) | refine Below.trans ?_ (by assumption)))); have ho1 : Box W1 (w.heap.size + 1) #[.int .i64 0, .string ⟨#[]⟩, .slice none 0 0] 47 := (by have h := (Box.new (w.alloc (.cells #[.int .i64 1, .int .i64 z] 44)) #[.int .i64 0, .string ⟨#[]⟩, .slice none 0 0] 47).below hbW1; rw [World.size_alloc] at h; exact h))
    | (refine wpList_store_new rfl 47 (.tmp 4) (.tmp 19) rfl rfl (w.heap.size + 1) #[.int .i64 0, .string ⟨#[]⟩, .slice none 0 0] rfl rfl w hb1 (Nat.le_succ _) 47 _ ho1 (by kernel_rfl) (by kernel_rfl) (by kernel_rfl) ?_; intro W9 hb9 hr9 _))
  exact bodyPost_ret (results_cell_tmp2 Tryd.results36 _ W9 (w.heap.size + 1) 47 _ _ _ _ rfl rfl rfl hr9 Tryd.underlying47 rfl (by kernel_rfl)) rfl (DecPost.flat 0 ⟨#[]⟩ 0 37 hb9 HD.out)
set_option maxRecDepth 100000 in
theorem decodeField_short4 (z : Int) (s : ByteArray) (w : World) (hz : fldE 4 z = 0) (hs : s.size ≤ 200000) (h : (s.size : Int) < z) :
    Calls Tryd.prog 36 #[.agg #[.int .i64 4, .int .i64 z], .string s] w (DecPost (decF 4 z (bl s)) w) := by
  have hd : decF 4 z (bl s) = (⟨0, ⟨#[]⟩, []⟩, 0, 37) := by unfold decF; rw [if_neg (by omega), if_pos (by rw [bl_length]; exact h)]; rfl
  have HD := Lib.hid hd
  have hop : opn 4 = false := rfl
  clear hd hz
  go_enter Tryd.func36, Tryd.ntmps36
  go_wp2_with (first
    | (go_at_call 59; refine (isFixed_any _ _ _).mono ?_; rintro e W1 ⟨rfl, hbW1⟩; obtain ⟨hcW1, hfW1⟩ := bcell hbW1; have hb1 : Below w.heap.size w W1 := (by (repeat (first | assumption | exact Below.refl _ _ | refine bel_drewN ?_ _ | refine bel_alloc ?_ _ | refine bel_trans ?_ (by assumption) | refine Below.trans ?_ (by assumption)))); have ho1 : Box W1 (w.heap.size + 1) #[.int .i64 0, .string ⟨#[]⟩, .slice none 0 0] 47 := (by have h := (Box.new (w.alloc (.cells #[.int .i64 4, .int .i64 z] 44)) #[.int .i64 0, .string ⟨#[]⟩, .slice none 0 0] 47).below hbW1; rw [World.size_alloc] at h; exact h))
    | (refine wpList_store_new rfl 47 (.tmp 4) (.tmp 19) rfl rfl (w.heap.size + 1) #[.int .i64 0, .string ⟨#[]⟩, .slice none 0 0] rfl rfl w hb1 (Nat.le_succ _) 47 _ ho1 (by kernel_rfl) (by kernel_rfl) (by kernel_rfl) ?_; intro W9 hb9 hr9 _))
  exact bodyPost_ret (results_cell_tmp2 Tryd.results36 _ W9 (w.heap.size + 1) 47 _ _ _ _ rfl rfl rfl hr9 Tryd.underlying47 rfl (by kernel_rfl)) rfl (DecPost.flat 0 ⟨#[]⟩ 0 37 hb9 HD.out)

set_option maxRecDepth 100000 in
theorem decodeField_num (z : Int) (s : ByteArray) (w : World) (hz : fldE 0 z = 0) (hs : s.size ≤ 200000) (h : z ≤ (s.size : Int)) :
    Calls Tryd.prog 36 #[.agg #[.int .i64 0, .int .i64 z], .string s] w (DecPost (decF 0 z (bl s)) w) := by
  obtain ⟨_, _, z1, z2⟩ := fldE_zero hz
  replace z1 : 1 ≤ z := z1
  replace z2 : z ≤ 6 := z2
  have hd : decF 0 z (bl s) = (⟨num ((bl s).take z.toNat), ⟨#[]⟩, []⟩, z.toNat, 0) := by unfold decF; rw [if_neg (by omega), if_neg (by rw [bl_length]; omega), if_pos rfl]
  have hop : opn 0 = false := rfl
  obtain ⟨zc, rfl⟩ := Int.eq_ofNat_of_zero_le (show 0 ≤ z by omega)
  have hL : ∀ W, Calls Tryd.prog 60 #[.string s, .int .i64 0, .int .i64 zc] W fun e w' => e = .returned (.int .i64 (num ((bl s).take zc))) ∧ W = w' := fun W => by
    have := LittleAt_any s 0 zc (by omega) (by unfold maxLen; omega) (by omega) W
    simpa using this
  have HL := Lib.hid hL
  have HD := Lib.hid hd
  clear hd hz hL
  go_enter Tryd.func36, Tryd.ntmps36
  go_wp2_with (go_at_call 59; refine (isFixed_any _ _ _).mono ?_; rintro e W1 ⟨rfl, hbW1⟩; obtain ⟨hcW1, hfW1⟩ := bcell hbW1; have hb1 : Below w.heap.size w W1 := (by (repeat (first | assumption | exact Below.refl _ _ | refine bel_drewN ?_ _ | refine bel_alloc ?_ _ | refine bel_trans ?_ (by assumption) | refine Below.trans ?_ (by assumption)))); have ho1 : Box W1 (w.heap.size + 1) #[.int .i64 0, .string ⟨#[]⟩, .slice none 0 0] 47 := (by have h := (Box.new (w.alloc (.cells #[.int .i64 0, .int .i64 zc] 44)) #[.int .i64 0, .string ⟨#[]⟩, .slice none 0 0] 47).below hbW1; rw [World.size_alloc] at h; exact h); have hsz1 : w.heap.size < W1.heap.size := (by have := hbW1.size; simp at this; omega))
  (refine wp_region_flowS (fun b _ => b = w.heap.size + 1) [false, false, false, false, false, false, false, true] [⟨7, [], fun _ => BoxR (w.heap.size + 1) #[.int .i64 (num ((bl s).take zc)), .string ⟨#[]⟩, .slice none 0 0] 47, true⟩] (by kernel_rfl) (by kernel_rfl) (by kernel_rfl) (by simp) ?_; simp only [pick, List.length_cons, List.length_nil, List.drop_succ_cons, List.drop_zero, Nat.zero_add, Nat.reduceAdd]; apply Exists.intro; refine ⟨fun X hX => ?_, ?_⟩; (focus (have hgX := regcellG hX; have hsX := hX.size; (try simp only [World.size_alloc] at hsX); (repeat (go_big_quiet_step ((first | (go_at_call 60; (with_reducible exact Calls.reg_pure (HL.out _))))))); exact wpQuiet_nil rfl)); simp only [wpNO, told, toldAll, List.contains_cons, List.contains_nil, List.mem_cons, List.not_mem_nil, forall_eq_or_imp, false_implies, implies_true, and_true, Nat.reduceBEq, BEq.rfl, beq_self_eq_true, Bool.or_false, Bool.false_or, Bool.true_or, Bool.or_true, Bool.false_eq_true, if_true, if_false, true_implies, dstAt, List.getElem?_toArray, List.getElem?_cons_succ, List.getElem?_cons_zero, Option.some.injEq, forall_eq', Option.bind_some, Act.put, List.setIfInBounds_toArray, List.set_cons_succ, List.set_cons_zero])
  refine ⟨⟨BoxR.stable, fun h => (by cases h), fun _ _ _ h => h⟩, fun X hX hcalm => ?_, fun v1 X hX hf => ?_⟩
  · exact leaves_store 47 (.tmp 4) (.tmp 29) rfl (w.heap.size + 1) #[.int .i64 (num ((bl s).take zc)), .string ⟨#[]⟩, .slice none 0 0] rfl rfl 47 _ (ho1.below hcalm) (by kernel_rfl) (by kernel_rfl) (by kernel_rfl)
  have hb9 : Below w.heap.size w X := hX.belowAt hb1 (Nat.le_succ _)
  have hr9 : Box X (w.heap.size + 1) #[.int .i64 (num ((bl s).take zc)), .string ⟨#[]⟩, .slice none 0 0] 47 := hf
  clear hf
  go_wp2
  exact bodyPost_ret (results_cell_tmp2 Tryd.results36 _ X (w.heap.size + 1) 47 _ _ _ _ rfl rfl rfl hr9 Tryd.underlying47 rfl (by kernel_rfl)) rfl (DecPost.flat _ ⟨#[]⟩ zc 0 hb9 HD.out)

set_option maxRecDepth 100000 in
theorem decodeField_fixed (z : Int) (s : ByteArray) (w : World) (hz : fldE 1 z = 0) (hs : s.size ≤ 200000) (h : z ≤ (s.size : Int)) :
    Calls Tryd.prog 36 #[.agg #[.int .i64 1, .int .i64 z], .string s] w (DecPost (decF 1 z (bl s)) w) := by
  obtain ⟨_, _, z1, z2⟩ := fldE_zero hz
  replace z1 : 1 ≤ z := z1
  replace z2 : z ≤ 64 := z2
  have hop : opn 1 = false := rfl
  obtain ⟨zc, rfl⟩ := Int.eq_ofNat_of_zero_le (show 0 ≤ z by omega)
  have hd : decF 1 (zc : Int) (bl s) = (⟨0, s.extract 0 zc, []⟩, zc, 0) := by
    unfold decF; rw [if_neg (by omega), if_neg (by rw [bl_length]; omega), if_neg (by omega), if_pos rfl]
    congr 2
    apply bl_inj; rw [bl_bs, bl_extract]; simp
  have HD := Lib.hid hd
  clear hd hz
  go_enter Tryd.func36, Tryd.ntmps36
  go_wp2_with (go_at_call 59; refine (isFixed_any _ _ _).mono ?_; rintro e W1 ⟨rfl, hbW1⟩; obtain ⟨hcW1, hfW1⟩ := bcell hbW1; have hb1 : Below w.heap.size w W1 := (by (repeat (first | assumption | exact Below.refl _ _ | refine bel_drewN ?_ _ | refine bel_alloc ?_ _ | refine bel_trans ?_ (by assumption) | refine Below.trans ?_ (by assumption)))); have ho1 : Box W1 (w.heap.size + 1) #[.int .i64 0, .string ⟨#[]⟩, .slice none 0 0] 47 := (by have h := (Box.new (w.alloc (.cells #[.int .i64 1, .int .i64 zc] 44)) #[.int .i64 0, .string ⟨#[]⟩, .slice none 0 0] 47).below hbW1; rw [World.size_alloc] at h; exact h); have hsz1 : w.heap.size < W1.heap.size := (by have := hbW1.size; simp at this; omega))
  (refine wp_region_flowS (fun b _ => b = w.heap.size + 1) [false, false, false, false, false, false, false, true] [⟨7, [], fun _ => BoxR (w.heap.size + 1) #[.int .i64 0, .string (s.extract 0 zc), .slice none 0 0] 47, true⟩] (by kernel_rfl) (by kernel_rfl) (by kernel_rfl) (by simp) ?_; simp only [pick, List.length_cons, List.length_nil, List.drop_succ_cons, List.drop_zero, Nat.zero_add, Nat.reduceAdd]; apply Exists.intro; refine ⟨fun X hX => ?_, ?_⟩; (focus (have hgX := regcellG hX; have hsX := hX.size; (try simp only [World.size_alloc] at hsX); (repeat (go_big_quiet_step ((first | fail)))); exact wpQuiet_nil rfl)); simp only [wpNO, told, toldAll, List.contains_cons, List.contains_nil, List.mem_cons, List.not_mem_nil, forall_eq_or_imp, false_implies, implies_true, and_true, Nat.reduceBEq, BEq.rfl, beq_self_eq_true, Bool.or_false, Bool.false_or, Bool.true_or, Bool.or_true, Bool.false_eq_true, if_true, if_false, true_implies, dstAt, List.getElem?_toArray, List.getElem?_cons_succ, List.getElem?_cons_zero, Option.some.injEq, forall_eq', Option.bind_some, Act.put, List.setIfInBounds_toArray, List.set_cons_succ, List.set_cons_zero])
  refine ⟨⟨BoxR.stable, fun h => (by cases h), fun _ _ _ h => h⟩, fun X hX hcalm => ?_, fun v1 X hX hf => ?_⟩
  · exact leaves_store 47 (.tmp 4) (.tmp 38) rfl (w.heap.size + 1) #[.int .i64 0, .string (s.extract 0 zc), .slice none 0 0] rfl rfl 47 _ (ho1.below hcalm) (by kernel_rfl) (by kernel_rfl) (by kernel_rfl)
  have hb9 : Below w.heap.size w X := hX.belowAt hb1 (Nat.le_succ _)
  have hr9 : Box X (w.heap.size + 1) #[.int .i64 0, .string (s.extract 0 zc), .slice none 0 0] 47 := hf
  clear hf
  go_wp2
  exact bodyPost_ret (results_cell_tmp2 Tryd.results36 _ X (w.heap.size + 1) 47 _ _ _ _ rfl rfl rfl hr9 Tryd.underlying47 rfl (by kernel_rfl)) rfl (DecPost.flat 0 _ zc 0 hb9 HD.out)

set_option maxRecDepth 100000 in
theorem decodeField_zero (z : Int) (s : ByteArray) (w : World) (hz : fldE 4 z = 0) (hs : s.size ≤ 200000) (h : z ≤ (s.size : Int)) :
    Calls Tryd.prog 36 #[.agg #[.int .i64 4, .int .i64 z], .string s] w (DecPost (decF 4 z (bl s)) w) := by
  obtain ⟨_, _, z1, z2⟩ := fldE_zero hz
  replace z1 : 1 ≤ z := z1
  replace z2 : z ≤ 64 := z2
  have hop : opn 4 = false := rfl
  obtain ⟨zc, rfl⟩ := Int.eq_ofNat_of_zero_le (show 0 ≤ z by omega)
  have e4 : bl (s.extract 0 zc) = (bl s).take zc := by rw [bl_extract]; simp
  have hd : decF 4 (zc : Int) (bl s) = if zB ((bl s).take zc) = true then (⟨0, ⟨#[]⟩, []⟩, zc, 0) else (⟨0, ⟨#[]⟩, []⟩, 0, 3) := by
    unfold decF zB; rw [if_neg (by omega), if_neg (by rw [bl_length]; omega), if_neg (by omega), if_neg (by omega)]; rfl
  have hL : ∀ W, Calls Tryd.prog 61 #[.string (s.extract 0 zc)] W fun e w' => e = .returned (.bool (zB ((bl s).take zc))) ∧ W = w' := fun W => by
    have := IsZeros_all (s.extract 0 zc) W (by rw [ByteArray.size_extract]; unfold maxLen; omega)
    rwa [e4] at this
  have HL := Lib.hid hL
  have HD := Lib.hid hd
  clear hd hz hL e4
  cases hB : zB ((bl s).take zc)
  · rw [hB] at HD HL
    go_enter Tryd.func36, Tryd.ntmps36
    go_wp2_with (first | (go_at_call 59; refine (isFixed_any _ _ _).mono ?_; rintro e W1 ⟨rfl, hbW1⟩; obtain ⟨hcW1, hfW1⟩ := bcell hbW1; have hb1 : Below w.heap.size w W1 := (by (repeat (first | assumption | exact Below.refl _ _ | refine bel_drewN ?_ _ | refine bel_alloc ?_ _ | refine bel_trans ?_ (by assumption) | refine Below.trans ?_ (by assumption)))); have ho1 : Box W1 (w.heap.size + 1) #[.int .i64 0, .string ⟨#[]⟩, .slice none 0 0] 47 := (by have h := (Box.new (w.alloc (.cells #[.int .i64 4, .int .i64 zc] 44)) #[.int .i64 0, .string ⟨#[]⟩, .slice none 0 0] 47).below hbW1; rw [World.size_alloc] at h; exact h); have hsz1 : w.heap.size < W1.heap.size := (by have := hbW1.size; simp at this; omega)) | (go_at_call 61; refine (HL.out _).mono ?_; rintro e w' ⟨rfl, rfl⟩) | (refine wpList_store_new rfl 47 (.tmp 4) (.tmp 47) rfl rfl (w.heap.size + 1) #[.int .i64 0, .string ⟨#[]⟩, .slice none 0 0] rfl rfl w hb1 (Nat.le_succ _) 47 _ ho1 (by kernel_rfl) (by kernel_rfl) (by kernel_rfl) ?_; intro W9 hb9 hr9 _))
    exact bodyPost_ret (results_cell_tmp2 Tryd.results36 _ W9 (w.heap.size + 1) 47 _ _ _ _ rfl rfl rfl hr9 Tryd.underlying47 rfl (by kernel_rfl)) rfl (DecPost.flat 0 ⟨#[]⟩ 0 3 hb9 (HD.out.trans (by simp)))
  · rw [hB] at HD HL
    go_enter Tryd.func36, Tryd.ntmps36
    go_wp2_with (first | (go_at_call 59; refine (isFixed_any _ _ _).mono ?_; rintro e W1 ⟨rfl, hbW1⟩; obtain ⟨hcW1, hfW1⟩ := bcell hbW1; have hb1 : Below w.heap.size w W1 := (by (repeat (first | assumption | exact Below.refl _ _ | refine bel_drewN ?_ _ | refine bel_alloc ?_ _ | refine bel_trans ?_ (by assumption) | refine Below.trans ?_ (by assumption)))); have ho1 : Box W1 (w.heap.size + 1) #[.int .i64 0, .string ⟨#[]⟩, .slice none 0 0] 47 := (by have h := (Box.new (w.alloc (.cells #[.int .i64 4, .int .i64 zc] 44)) #[.int .i64 0, .string ⟨#[]⟩, .slice none 0 0] 47).below hbW1; rw [World.size_alloc] at h; exact h); have hsz1 : w.heap.size < W1.heap.size := (by have := hbW1.size; simp at this; omega)) | (go_at_call 61; refine (HL.out _).mono ?_; rintro e w' ⟨rfl, rfl⟩))
    (refine wp_region_flowS (fun b _ => b = w.heap.size + 1) [false, false, false, true] [⟨3, [], fun _ => BoxR (w.heap.size + 1) #[.int .i64 0, .string ⟨#[]⟩, .slice none 0 0] 47, true⟩] (by kernel_rfl) (by kernel_rfl) (by kernel_rfl) (by simp) ?_; simp only [pick, List.length_cons, List.length_nil, List.drop_succ_cons, List.drop_zero, Nat.zero_add, Nat.reduceAdd]; apply Exists.intro; refine ⟨fun X hX => ?_, ?_⟩; (focus (have hgX := regcellG hX; have hsX := hX.size; (try simp only [World.size_alloc] at hsX); (repeat (go_big_quiet_step ((first | fail)))); exact wpQuiet_nil rfl)); simp only [wpNO, told, toldAll, List.contains_cons, List.contains_nil, List.mem_cons, List.not_mem_nil, forall_eq_or_imp, false_implies, implies_true, and_true, Nat.reduceBEq, BEq.rfl, beq_self_eq_true, Bool.or_false, Bool.false_or, Bool.true_or, Bool.or_true, Bool.false_eq_true, if_true, if_false, true_implies, dstAt, List.getElem?_toArray, List.getElem?_cons_succ, List.getElem?_cons_zero, Option.some.injEq, forall_eq', Option.bind_some, Act.put, List.setIfInBounds_toArray, List.set_cons_succ, List.set_cons_zero])
    refine ⟨⟨BoxR.stable, fun h => (by cases h), fun _ _ _ h => h⟩, fun X hX hcalm => ?_, fun v1 X hX hf => ?_⟩
    · exact leaves_store 47 (.tmp 4) (.tmp 48) rfl (w.heap.size + 1) #[.int .i64 0, .string ⟨#[]⟩, .slice none 0 0] rfl rfl 47 _ (ho1.below hcalm) (by kernel_rfl) (by kernel_rfl) (by kernel_rfl)
    have hb9 : Below w.heap.size w X := hX.belowAt hb1 (Nat.le_succ _)
    have hr9 : Box X (w.heap.size + 1) #[.int .i64 0, .string ⟨#[]⟩, .slice none 0 0] 47 := hf
    clear hf
    go_wp2
    exact bodyPost_ret (results_cell_tmp2 Tryd.results36 _ X (w.heap.size + 1) 47 _ _ _ _ rfl rfl rfl hr9 Tryd.underlying47 rfl (by kernel_rfl)) rfl (DecPost.flat 0 ⟨#[]⟩ zc 0 hb9 (HD.out.trans (by simp)))

set_option maxRecDepth 100000 in
theorem decodeField_empty2 (z : Int) (s : ByteArray) (w : World) (hz : fldE 2 z = 0) (h : s.size = 0) :
    Calls Tryd.prog 36 #[.agg #[.int .i64 2, .int .i64 z], .string s] w (DecPost (decF 2 z (bl s)) w) := by
  have hd : decF 2 z (bl s) = (⟨0, ⟨#[]⟩, []⟩, 0, 37) := by unfold decF; rw [if_pos (by omega), if_pos (by rw [bl_length]; exact h)]; rfl
  have HD := Lib.hid hd
  have hop : opn 2 = true := rfl
  have h' : ((s.size : Int) == 0) = true := by rw [h]; rfl
  clear hd hz h
  go_enter Tryd.func36, Tryd.ntmps36
  go_wp2_with (first | (go_at_call 59; refine (isFixed_any _ _ _).mono ?_; rintro e W1 ⟨rfl, hbW1⟩; obtain ⟨hcW1, hfW1⟩ := bcell hbW1; have hb1 : Below w.heap.size w W1 := (by (repeat (first | assumption | exact Below.refl _ _ | refine bel_drewN ?_ _ | refine bel_alloc ?_ _ | refine bel_trans ?_ (by assumption) | refine Below.trans ?_ (by assumption)))); have ho1 : Box W1 (w.heap.size + 1) #[.int .i64 0, .string ⟨#[]⟩, .slice none 0 0] 47 := (by have h := (Box.new (w.alloc (.cells #[.int .i64 2, .int .i64 z] 44)) #[.int .i64 0, .string ⟨#[]⟩, .slice none 0 0] 47).below hbW1; rw [World.size_alloc] at h; exact h); have hsz1 : w.heap.size < W1.heap.size := (by have := hbW1.size; simp at this; omega)) | (refine wpList_store_new rfl 47 (.tmp 4) (.tmp 54) rfl rfl (w.heap.size + 1) #[.int .i64 0, .string ⟨#[]⟩, .slice none 0 0] rfl rfl w hb1 (Nat.le_succ _) 47 _ ho1 (by kernel_rfl) (by kernel_rfl) (by kernel_rfl) ?_; intro W9 hb9 hr9 _))
  exact bodyPost_ret (results_cell_tmp2 Tryd.results36 _ W9 (w.heap.size + 1) 47 _ _ _ _ rfl rfl rfl hr9 Tryd.underlying47 rfl (by kernel_rfl)) rfl (DecPost.flat 0 ⟨#[]⟩ 0 37 hb9 HD.out)

set_option maxRecDepth 100000 in
theorem decodeField_empty3 (z : Int) (s : ByteArray) (w : World) (hz : fldE 3 z = 0) (h : s.size = 0) :
    Calls Tryd.prog 36 #[.agg #[.int .i64 3, .int .i64 z], .string s] w (DecPost (decF 3 z (bl s)) w) := by
  have hd : decF 3 z (bl s) = (⟨0, ⟨#[]⟩, []⟩, 0, 37) := by unfold decF; rw [if_pos (by omega), if_pos (by rw [bl_length]; exact h)]; rfl
  have HD := Lib.hid hd
  have hop : opn 3 = true := rfl
  have h' : ((s.size : Int) == 0) = true := by rw [h]; rfl
  clear hd hz h
  go_enter Tryd.func36, Tryd.ntmps36
  go_wp2_with (first | (go_at_call 59; refine (isFixed_any _ _ _).mono ?_; rintro e W1 ⟨rfl, hbW1⟩; obtain ⟨hcW1, hfW1⟩ := bcell hbW1; have hb1 : Below w.heap.size w W1 := (by (repeat (first | assumption | exact Below.refl _ _ | refine bel_drewN ?_ _ | refine bel_alloc ?_ _ | refine bel_trans ?_ (by assumption) | refine Below.trans ?_ (by assumption)))); have ho1 : Box W1 (w.heap.size + 1) #[.int .i64 0, .string ⟨#[]⟩, .slice none 0 0] 47 := (by have h := (Box.new (w.alloc (.cells #[.int .i64 3, .int .i64 z] 44)) #[.int .i64 0, .string ⟨#[]⟩, .slice none 0 0] 47).below hbW1; rw [World.size_alloc] at h; exact h); have hsz1 : w.heap.size < W1.heap.size := (by have := hbW1.size; simp at this; omega)) | (refine wpList_store_new rfl 47 (.tmp 4) (.tmp 54) rfl rfl (w.heap.size + 1) #[.int .i64 0, .string ⟨#[]⟩, .slice none 0 0] rfl rfl w hb1 (Nat.le_succ _) 47 _ ho1 (by kernel_rfl) (by kernel_rfl) (by kernel_rfl) ?_; intro W9 hb9 hr9 _))
  exact bodyPost_ret (results_cell_tmp2 Tryd.results36 _ W9 (w.heap.size + 1) 47 _ _ _ _ rfl rfl rfl hr9 Tryd.underlying47 rfl (by kernel_rfl)) rfl (DecPost.flat 0 ⟨#[]⟩ 0 37 hb9 HD.out)

set_option maxRecDepth 100000 in
theorem decodeField_end2 (z : Int) (s : ByteArray) (w : World) (hz : fldE 2 z = 0) (hs : s.size ≤ 200000) (h : 0 < s.size) (h2 : (s.size : Int) < 1 + (s[0].toNat : Int)) :
    Calls Tryd.prog 36 #[.agg #[.int .i64 2, .int .i64 z], .string s] w (DecPost (decF 2 z (bl s)) w) := by
  obtain ⟨_, _, z1, z2⟩ := fldE_zero hz
  replace z1 : 0 ≤ z := z1
  replace z2 : z ≤ 255 := z2
  have hop : opn 2 = true := rfl
  have h' : ((s.size : Int) == 0) = false := by rw [beq_eq_false_iff_ne]; omega
  have hg : (bl s).getD 0 0 = s[0] := by rw [List.getD_eq_getElem?_getD, List.getElem?_eq_getElem (by rw [bl_length]; exact h)]; rfl
  have hc8 := s[0].toNat_lt
  have hd : decF 2 z (bl s) = (⟨0, ⟨#[]⟩, []⟩, 0, 37) := by
    unfold decF; rw [hg, if_pos (by omega), if_neg (by rw [bl_length]; omega), if_pos (by rw [bl_length]; (first | rw [if_pos rfl] | rw [if_neg (by omega)]); omega)]; rfl
  have HD := Lib.hid hd
  clear hd hz hg
  obtain ⟨m, hm⟩ : ∃ m : Nat, m = s[0].toNat := ⟨_, rfl⟩
  rw [← hm] at h2 hc8
  have HM := Lib.hid hm
  by_cases h3 : z < m
  all_goals
    have hm' : (s[0].toNat : Int) = m := by rw [HM.out]
    clear hm
    go_enter Tryd.func36, Tryd.ntmps36
    go_wp2_with (first | (go_at_call 59; refine (isFixed_any _ _ _).mono ?_; rintro e W1 ⟨rfl, hbW1⟩; obtain ⟨hcW1, hfW1⟩ := bcell hbW1; have hb1 : Below w.heap.size w W1 := (by (repeat (first | assumption | exact Below.refl _ _ | refine bel_drewN ?_ _ | refine bel_alloc ?_ _ | refine bel_trans ?_ (by assumption) | refine Below.trans ?_ (by assumption)))); have ho1 : Box W1 (w.heap.size + 1) #[.int .i64 0, .string ⟨#[]⟩, .slice none 0 0] 47 := (by have h := (Box.new (w.alloc (.cells #[.int .i64 2, .int .i64 z] 44)) #[.int .i64 0, .string ⟨#[]⟩, .slice none 0 0] 47).below hbW1; rw [World.size_alloc] at h; exact h); have hsz1 : w.heap.size < W1.heap.size := (by have := hbW1.size; simp at this; omega)) | (refine wpList_store_new rfl 47 (.tmp 4) (.tmp 71) rfl rfl (w.heap.size + 1) #[.int .i64 0, .string ⟨#[]⟩, .slice none 0 0] rfl rfl w hb1 (Nat.le_succ _) 47 _ ho1 (by kernel_rfl) (by kernel_rfl) (by kernel_rfl) ?_; intro W9 hb9 hr9 _))
    exact bodyPost_ret (results_cell_tmp2 Tryd.results36 _ W9 (w.heap.size + 1) 47 _ _ _ _ rfl rfl rfl hr9 Tryd.underlying47 rfl (by kernel_rfl)) rfl (DecPost.flat 0 ⟨#[]⟩ 0 37 hb9 HD.out)

set_option maxRecDepth 100000 in
theorem decodeField_large2 (z : Int) (s : ByteArray) (w : World) (hz : fldE 2 z = 0) (hs : s.size ≤ 200000) (h : 0 < s.size) (h2 : 1 + (s[0].toNat : Int) ≤ (s.size : Int)) (h3 : z < s[0].toNat) :
    Calls Tryd.prog 36 #[.agg #[.int .i64 2, .int .i64 z], .string s] w (DecPost (decF 2 z (bl s)) w) := by
  obtain ⟨_, _, z1, z2⟩ := fldE_zero hz
  replace z1 : 0 ≤ z := z1
  replace z2 : z ≤ 255 := z2
  have hop : opn 2 = true := rfl
  have h' : ((s.size : Int) == 0) = false := by rw [beq_eq_false_iff_ne]; omega
  have hg : (bl s).getD 0 0 = s[0] := by rw [List.getD_eq_getElem?_getD, List.getElem?_eq_getElem (by rw [bl_length]; exact h)]; rfl
  have hc8 := s[0].toNat_lt
  have hd : decF 2 z (bl s) = (⟨0, ⟨#[]⟩, []⟩, 0, 8) := by
    unfold decF; rw [hg, if_pos (by omega), if_neg (by rw [bl_length]; omega), if_neg (by rw [bl_length]; (first | rw [if_pos rfl] | rw [if_neg (by omega)]); omega), if_pos h3]; rfl
  have HD := Lib.hid hd
  clear hd hz hg
  go_enter Tryd.func36, Tryd.ntmps36
  go_wp2_with (first | (go_at_call 59; refine (isFixed_any _ _ _).mono ?_; rintro e W1 ⟨rfl, hbW1⟩; obtain ⟨hcW1, hfW1⟩ := bcell hbW1; have hb1 : Below w.heap.size w W1 := (by (repeat (first | assumption | exact Below.refl _ _ | refine bel_drewN ?_ _ | refine bel_alloc ?_ _ | refine bel_trans ?_ (by assumption) | refine Below.trans ?_ (by assumption)))); have ho1 : Box W1 (w.heap.size + 1) #[.int .i64 0, .string ⟨#[]⟩, .slice none 0 0] 47 := (by have h := (Box.new (w.alloc (.cells #[.int .i64 2, .int .i64 z] 44)) #[.int .i64 0, .string ⟨#[]⟩, .slice none 0 0] 47).below hbW1; rw [World.size_alloc] at h; exact h); have hsz1 : w.heap.size < W1.heap.size := (by have := hbW1.size; simp at this; omega)) | (refine wpList_store_new rfl 47 (.tmp 4) (.tmp 74) rfl rfl (w.heap.size + 1) #[.int .i64 0, .string ⟨#[]⟩, .slice none 0 0] rfl rfl w hb1 (Nat.le_succ _) 47 _ ho1 (by kernel_rfl) (by kernel_rfl) (by kernel_rfl) ?_; intro W9 hb9 hr9 _))
  exact bodyPost_ret (results_cell_tmp2 Tryd.results36 _ W9 (w.heap.size + 1) 47 _ _ _ _ rfl rfl rfl hr9 Tryd.underlying47 rfl (by kernel_rfl)) rfl (DecPost.flat 0 ⟨#[]⟩ 0 8 hb9 HD.out)

set_option maxRecDepth 100000 in
theorem decodeField_end3 (z : Int) (s : ByteArray) (w : World) (hz : fldE 3 z = 0) (hs : s.size ≤ 200000) (h : 0 < s.size) (h2 : (s.size : Int) < 1 + 2 * (s[0].toNat : Int)) :
    Calls Tryd.prog 36 #[.agg #[.int .i64 3, .int .i64 z], .string s] w (DecPost (decF 3 z (bl s)) w) := by
  obtain ⟨_, _, z1, z2⟩ := fldE_zero hz
  replace z1 : 0 ≤ z := z1
  replace z2 : z ≤ 127 := z2
  have hop : opn 3 = true := rfl
  have h' : ((s.size : Int) == 0) = false := by rw [beq_eq_false_iff_ne]; omega
  have hg : (bl s).getD 0 0 = s[0] := by rw [List.getD_eq_getElem?_getD, List.getElem?_eq_getElem (by rw [bl_length]; exact h)]; rfl
  have hc8 := s[0].toNat_lt
  have hd : decF 3 z (bl s) = (⟨0, ⟨#[]⟩, []⟩, 0, 37) := by
    unfold decF; rw [hg, if_pos (by omega), if_neg (by rw [bl_length]; omega), if_pos (by rw [bl_length]; (first | rw [if_pos rfl] | rw [if_neg (by omega)]); omega)]; rfl
  have HD := Lib.hid hd
  clear hd hz hg
  obtain ⟨m, hm⟩ : ∃ m : Nat, m = s[0].toNat := ⟨_, rfl⟩
  rw [← hm] at h2 hc8
  have HM := Lib.hid hm
  by_cases h3 : z < m
  all_goals
    have hm' : (s[0].toNat : Int) = m := by rw [HM.out]
    clear hm
    go_enter Tryd.func36, Tryd.ntmps36
    go_wp2_with (first | (go_at_call 59; refine (isFixed_any _ _ _).mono ?_; rintro e W1 ⟨rfl, hbW1⟩; obtain ⟨hcW1, hfW1⟩ := bcell hbW1; have hb1 : Below w.heap.size w W1 := (by (repeat (first | assumption | exact Below.refl _ _ | refine bel_drewN ?_ _ | refine bel_alloc ?_ _ | refine bel_trans ?_ (by assumption) | refine Below.trans ?_ (by assumption)))); have ho1 : Box W1 (w.heap.size + 1) #[.int .i64 0, .string ⟨#[]⟩, .slice none 0 0] 47 := (by have h := (Box.new (w.alloc (.cells #[.int .i64 3, .int .i64 z] 44)) #[.int .i64 0, .string ⟨#[]⟩, .slice none 0 0] 47).below hbW1; rw [World.size_alloc] at h; exact h); have hsz1 : w.heap.size < W1.heap.size := (by have := hbW1.size; simp at this; omega)) | (refine wpList_store_new rfl 47 (.tmp 4) (.tmp 88) rfl rfl (w.heap.size + 1) #[.int .i64 0, .string ⟨#[]⟩, .slice none 0 0] rfl rfl w hb1 (Nat.le_succ _) 47 _ ho1 (by kernel_rfl) (by kernel_rfl) (by kernel_rfl) ?_; intro W9 hb9 hr9 _))
    exact bodyPost_ret (results_cell_tmp2 Tryd.results36 _ W9 (w.heap.size + 1) 47 _ _ _ _ rfl rfl rfl hr9 Tryd.underlying47 rfl (by kernel_rfl)) rfl (DecPost.flat 0 ⟨#[]⟩ 0 37 hb9 HD.out)

set_option maxRecDepth 100000 in
theorem decodeField_large3 (z : Int) (s : ByteArray) (w : World) (hz : fldE 3 z = 0) (hs : s.size ≤ 200000) (h : 0 < s.size) (h2 : 1 + 2 * (s[0].toNat : Int) ≤ (s.size : Int)) (h3 : z < s[0].toNat) :
    Calls Tryd.prog 36 #[.agg #[.int .i64 3, .int .i64 z], .string s] w (DecPost (decF 3 z (bl s)) w) := by
  obtain ⟨_, _, z1, z2⟩ := fldE_zero hz
  replace z1 : 0 ≤ z := z1
  replace z2 : z ≤ 127 := z2
  have hop : opn 3 = true := rfl
  have h' : ((s.size : Int) == 0) = false := by rw [beq_eq_false_iff_ne]; omega
  have hg : (bl s).getD 0 0 = s[0] := by rw [List.getD_eq_getElem?_getD, List.getElem?_eq_getElem (by rw [bl_length]; exact h)]; rfl
  have hc8 := s[0].toNat_lt
  have hd : decF 3 z (bl s) = (⟨0, ⟨#[]⟩, []⟩, 0, 8) := by
    unfold decF; rw [hg, if_pos (by omega), if_neg (by rw [bl_length]; omega), if_neg (by rw [bl_length]; (first | rw [if_pos rfl] | rw [if_neg (by omega)]); omega), if_pos h3]; rfl
  have HD := Lib.hid hd
  clear hd hz hg
  go_enter Tryd.func36, Tryd.ntmps36
  go_wp2_with (first | (go_at_call 59; refine (isFixed_any _ _ _).mono ?_; rintro e W1 ⟨rfl, hbW1⟩; obtain ⟨hcW1, hfW1⟩ := bcell hbW1; have hb1 : Below w.heap.size w W1 := (by (repeat (first | assumption | exact Below.refl _ _ | refine bel_drewN ?_ _ | refine bel_alloc ?_ _ | refine bel_trans ?_ (by assumption) | refine Below.trans ?_ (by assumption)))); have ho1 : Box W1 (w.heap.size + 1) #[.int .i64 0, .string ⟨#[]⟩, .slice none 0 0] 47 := (by have h := (Box.new (w.alloc (.cells #[.int .i64 3, .int .i64 z] 44)) #[.int .i64 0, .string ⟨#[]⟩, .slice none 0 0] 47).below hbW1; rw [World.size_alloc] at h; exact h); have hsz1 : w.heap.size < W1.heap.size := (by have := hbW1.size; simp at this; omega)) | (refine wpList_store_new rfl 47 (.tmp 4) (.tmp 91) rfl rfl (w.heap.size + 1) #[.int .i64 0, .string ⟨#[]⟩, .slice none 0 0] rfl rfl w hb1 (Nat.le_succ _) 47 _ ho1 (by kernel_rfl) (by kernel_rfl) (by kernel_rfl) ?_; intro W9 hb9 hr9 _))
  exact bodyPost_ret (results_cell_tmp2 Tryd.results36 _ W9 (w.heap.size + 1) 47 _ _ _ _ rfl rfl rfl hr9 Tryd.underlying47 rfl (by kernel_rfl)) rfl (DecPost.flat 0 ⟨#[]⟩ 0 8 hb9 HD.out)

set_option maxRecDepth 100000 in
theorem decodeField_text (z : Int) (s : ByteArray) (w : World) (hz : fldE 2 z = 0) (hs : s.size ≤ 200000) (h : 0 < s.size) (h2 : 1 + (s[0].toNat : Int) ≤ (s.size : Int)) (h3 : (s[0].toNat : Int) ≤ z) :
    Calls Tryd.prog 36 #[.agg #[.int .i64 2, .int .i64 z], .string s] w (DecPost (decF 2 z (bl s)) w) := by
  obtain ⟨_, _, z1, z2⟩ := fldE_zero hz
  replace z1 : 0 ≤ z := z1
  replace z2 : z ≤ 255 := z2
  have hop : opn 2 = true := rfl
  have h' : ((s.size : Int) == 0) = false := by rw [beq_eq_false_iff_ne]; omega
  have hg : (bl s).getD 0 0 = s[0] := by rw [List.getD_eq_getElem?_getD, List.getElem?_eq_getElem (by rw [bl_length]; exact h)]; rfl
  have hc8 := s[0].toNat_lt
  have hd : decF 2 z (bl s) = (⟨0, s.extract 1 (1 + s[0].toNat), []⟩, 1 + s[0].toNat, 0) := by
    unfold decF; rw [hg, if_pos (by omega), if_neg (by rw [bl_length]; omega), if_neg (by rw [bl_length, if_neg (by omega)]; omega), if_neg (by omega), if_pos rfl]
    congr 2
    apply bl_inj; rw [bl_bs, bl_extract, List.drop_take, Nat.add_sub_cancel_left]
  have HD := Lib.hid hd
  clear hd hz hg
  go_enter Tryd.func36, Tryd.ntmps36
  go_wp2_with (first | (go_at_call 59; refine (isFixed_any _ _ _).mono ?_; rintro e W1 ⟨rfl, hbW1⟩; obtain ⟨hcW1, hfW1⟩ := bcell hbW1; have hb1 : Below w.heap.size w W1 := (by (repeat (first | assumption | exact Below.refl _ _ | refine bel_drewN ?_ _ | refine bel_alloc ?_ _ | refine bel_trans ?_ (by assumption) | refine Below.trans ?_ (by assumption)))); have ho1 : Box W1 (w.heap.size + 1) #[.int .i64 0, .string ⟨#[]⟩, .slice none 0 0] 47 := (by have h := (Box.new (w.alloc (.cells #[.int .i64 2, .int .i64 z] 44)) #[.int .i64 0, .string ⟨#[]⟩, .slice none 0 0] 47).below hbW1; rw [World.size_alloc] at h; exact h); have hsz1 : w.heap.size < W1.heap.size := (by have := hbW1.size; simp at this; omega)) | (refine wpList_store_new rfl 47 (.tmp 4) (.tmp 79) rfl rfl (w.heap.size + 1) #[.int .i64 0, .string (s.extract 1 (1 + s[0].toNat)), .slice none 0 0] rfl rfl w hb1 (Nat.le_succ _) 47 _ ho1 (by kernel_rfl) (by kernel_rfl) (by kernel_rfl) ?_; intro W9 hb9 hr9 _))
  exact bodyPost_ret (results_cell_tmp2 Tryd.results36 _ W9 (w.heap.size + 1) 47 _ _ _ _ rfl rfl rfl hr9 Tryd.underlying47 rfl (by kernel_rfl)) rfl (DecPost.flat 0 _ (1 + s[0].toNat) 0 hb9 HD.out)
end Go.Proofs.YtiomfkgbaemmkaaDoor
