/-
  EncodeFields: the bytes of values, or the errors.
-/
import Derived.Test.YtiomfkgbaemmkaaEnc
namespace Go.Proofs.Ytiomfkgbaemmkaa
set_option linter.unusedVariables false
set_option linter.unusedSimpArgs false
open Go.RowKit Go.Sort

/-- the error of EncodeFields -/
def encErr (l : List Fld) (vs : List VC) : Int := if (layP l).2 ≠ 0 then (layP l).2 else if vs.length ≠ l.length then 10 else (eachE (encE vs) 0 l).2
def encStr (l : List Fld) (vs : List VC) : ByteArray := if encErr l vs = 0 then bs (encAt l vs l.length) else ⟨#[]⟩

theorem IsB.alloc {B b : Nat} {l : List UInt8} {w : World} (h : IsB B b l w) (o : Obj) : IsB B b l (w.alloc o) := by
  have aux : ∀ {p}, Lib.BuilderAt 96 5 B b p (Lib.byteCells l) w → Lib.BuilderAt 96 5 B b p (Lib.byteCells l) (w.alloc o) := fun {p} h => by
    obtain ⟨hB, v, hb, hown, hne⟩ := h
    exact ⟨hB, v, (Lib.alloc_old w o b (Array.getElem?_eq_some_iff.1 hb).1).trans hb, hown.alloc _, hne⟩
  exact h.elim (fun h => .inl (aux h)) (fun h => .inr (aux h))
theorem IsB.below {B b : Nat} {l : List UInt8} {w w' : World} (h : IsB B b l w) (hw : Below w.heap.size w w') : IsB B b l w' := by
  have aux : ∀ {p}, Lib.BuilderAt 96 5 B b p (Lib.byteCells l) w → Lib.BuilderAt 96 5 B b p (Lib.byteCells l) w' := fun {p} h => by
    obtain ⟨hB, v, hb, hown, hne⟩ := h
    exact ⟨hB, v, (hw.block b (Array.getElem?_eq_some_iff.1 hb).1).trans hb, ownsRow_below hown hw, hne⟩
  exact h.elim (fun h => .inl (aux h)) (fun h => .inr (aux h))

theorem fieldL_length {k z n : Int} {s : ByteArray} {ns : List Int} (hz : fldE k z = 0) (h : valE k z n s ns = 0) : (fieldL k z n s ns).length ≤ 256 := by
  obtain ⟨h0, h4, z1, z2⟩ := fldE_zero hz
  obtain ⟨_, _, v1, v2⟩ := valE_zero h
  have : k = 0 ∨ k = 1 ∨ k = 2 ∨ k = 3 ∨ k = 4 := by omega
  rcases this with rfl | rfl | rfl | rfl | rfl
  · replace z2 : z ≤ 6 := z2
    simp only [fieldL, if_true, lit_length]
    omega
  · replace z2 : z ≤ 64 := z2
    have := v1 rfl
    show (bl s).length ≤ 256
    rw [bl_length]; omega
  · replace z2 : z ≤ 255 := z2
    have := v2 rfl
    show (lit s.size 1 ++ bl s).length ≤ 256
    rw [List.length_append, lit_length, bl_length]; omega
  · replace z2 : z ≤ 127 := z2
    have := v2 rfl
    show (lit ns.length 1 ++ _).length ≤ 256
    rw [List.length_append, lit_length, flatMap_lit2]; omega
  · replace z2 : z ≤ 64 := z2
    show (zerosL z.toNat).length ≤ 256
    simp only [zerosL, List.length_replicate]; omega

set_option maxRecDepth 100000 in
theorem Encode_bad1 (A A2 : Option Addr) (c c2 : Nat) (l : List Fld) (vs : List VC) (w : World) (hlen : l.length ≤ maxLen) (hr : Rd w w.heap.size A (fldsV l)) (h : (layP l).2 ≠ 0) :
    Calls Try.prog 41 #[.slice A l.length c, .slice A2 vs.length c2] w fun e w' => e = .returned (.tuple #[.string ⟨#[]⟩, .int .i64 (layP l).2]) ∧ Below w.heap.size w w' := by
  have h1 : ((layP l).2 != 0) = true := by simp [h]
  have hr1 := fun o => hr.below' (bel_alloc (Below.refl w.heap.size w) o)
  have HR := Lib.hid hr1
  clear h hr hr1
  go_enter Try.func41, Try.ntmps41
  go_wp2_with (go_at_call 17; refine (CheckLayout_any A c l _ hlen (HR.out _)).mono ?_; rintro e W1 ⟨rfl, hbW1⟩)
  go_ret2
  exact ⟨rfl, bel_trans (bel_alloc (Below.refl _ _) _) hbW1⟩

set_option maxRecDepth 100000 in
theorem Encode_bad2 (A A2 : Option Addr) (c c2 : Nat) (l : List Fld) (vs : List VC) (w : World) (hlen : l.length ≤ maxLen) (hvl : vs.length ≤ maxLen) (hr : Rd w w.heap.size A (fldsV l)) (h : (layP l).2 = 0) (hne : vs.length ≠ l.length) :
    Calls Try.prog 41 #[.slice A l.length c, .slice A2 vs.length c2] w fun e w' => e = .returned (.tuple #[.string ⟨#[]⟩, .int .i64 10]) ∧ Below w.heap.size w w' := by
  have h1 : ((layP l).2 != 0) = false := by simp [h]
  have h2 : ((vs.length : Int) != l.length) = true := by simp; omega
  have hr1 := fun o => hr.below' (bel_alloc (Below.refl w.heap.size w) o)
  have HR := Lib.hid hr1
  have HL := Lib.hid hlen
  unfold maxLen at hlen hvl
  clear h hr hr1 hne
  go_enter Try.func41, Try.ntmps41
  go_wp2_with (go_at_call 17; refine (CheckLayout_any A c l _ HL.out (HR.out _)).mono ?_; rintro e W1 ⟨rfl, hbW1⟩; obtain ⟨hcW1, hfW1⟩ := bcell hbW1)
  go_ret2
  exact ⟨rfl, bel_trans (bel_alloc (Below.refl _ _) _) hbW1⟩

set_option maxRecDepth 100000 in
theorem Encode_bad3 (A A2 : Option Addr) (c c2 : Nat) (l : List Fld) (vs : List VC) (w : World) (hr : Rd w w.heap.size A (fldsV l)) (hr2 : Rd w w.heap.size A2 (vcsV vs)) (hv : ∀ j, j < vs.length → VOk w w.heap.size (vs.getD j vc0))
    (h : (layP l).2 = 0) (hvl : vs.length = l.length) (he : (eachE (encE vs) 0 l).2 ≠ 0) :
    Calls Try.prog 41 #[.slice A l.length c, .slice A2 vs.length c2] w fun e w' => e = .returned (.tuple #[.string ⟨#[]⟩, .int .i64 (eachE (encE vs) 0 l).2]) ∧ Below w.heap.size w w' := by
  have h1 : ((layP l).2 != 0) = false := by simp [h]
  have h2 : ((vs.length : Int) != l.length) = false := by simp [hvl]
  have h3 : ((eachE (encE vs) 0 l).2 != 0) = true := by simp [he]
  obtain ⟨hlen, hfz⟩ := layP_zero h
  have hr1 := fun o => hr.below' (bel_alloc (Below.refl w.heap.size w) o)
  have HR := Lib.hid hr1
  have hE : ∀ W, Below (w.alloc (.cells #[.slice A2 vs.length c2] 70)).heap.size (w.alloc (.cells #[.slice A2 vs.length c2] 70)) W → Calls Try.prog 50 #[.slice A l.length c, .func (.func 70) #[] #[.pointer (some ⟨w.heap.size, 0, none⟩)]] W fun e w' =>
      e = .returned (.tuple #[.int .i64 (eachE (encE vs) 0 l).1, .int .i64 (eachE (encE vs) 0 l).2]) ∧ Below W.heap.size W w' := fun W hW => by
    have hb := bel_trans (bel_alloc (Below.refl w.heap.size w) _) hW
    exact eachEnc_any A A2 c c2 w.heap.size l vs W (by omega) hvl ((hW.cell (p := ⟨w.heap.size, 0, none⟩) (by simp)).trans (by simp)) hfz (hr.below' hb) (hr2.below' hb) (fun j hj => ((hv j hj).below hb).mono hb.size)
  have HE := Lib.hid hE
  have hmf : ∀ (fn : Fn) (first cap : Array Value) (w : World), (Instr.makeFunc fn first cap).run Try.prog w = .ok (.func fn first cap) w := fun _ _ _ _ => rfl
  clear h hr hr1 hr2 hv hfz he hE hvl
  go_enter Try.func41, Try.ntmps41
  go_wp2_with (first | (go_at_call 17; refine (CheckLayout_any A c l _ (by unfold maxLen; omega) (HR.out _)).mono ?_; rintro e W1 ⟨rfl, hbW1⟩; obtain ⟨hcW1, hfW1⟩ := bcell hbW1) | (go_at_call 50; refine (HE.out _ (by assumption)).mono ?_; rintro e W2 ⟨rfl, hbW2⟩))
  go_ret2
  exact ⟨rfl, bel_trans (bel_trans (bel_alloc (Below.refl _ _) _) hbW1) hbW2⟩
end Go.Proofs.Ytiomfkgbaemmkaa
