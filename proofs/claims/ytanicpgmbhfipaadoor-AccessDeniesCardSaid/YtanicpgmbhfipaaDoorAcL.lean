/-
  Chapter 17: what the walks of the laws share: bits of masks, copies in drawn regions.
-/
import Derived.Test.YtanicpgmbhfipaaDoorAcF
namespace Go.Proofs.YtanicpgmbhfipaaDoor
set_option linter.unusedVariables false
set_option linter.unusedSimpArgs false
open Go.RowKit Go.Sort

theorem andNot_bits (m R : Int) (h0 : 0 ≤ m) (h1 : m < 2 ^ 62) (h2 : 0 ≤ R) (h3 : R < 2 ^ 62) : bits .andNot .i64 m R = m - bits .and .i64 m R ∧ 0 ≤ bits .and .i64 m R ∧ bits .and .i64 m R ≤ m := by
  obtain ⟨a, rfl⟩ := Int.eq_ofNat_of_zero_le h0
  obtain ⟨b, rfl⟩ := Int.eq_ofNat_of_zero_le h2
  have ha : a < 2 ^ 62 := by exact_mod_cast h1
  have hb : b < 2 ^ 62 := by exact_mod_cast h3
  have e1 := (bits_nat .i64 62 (by decide) wraps62 a b ha hb).1
  have hx : BitVec.ofNat 64 a = (BitVec.ofNat 64 a &&& BitVec.ofNat 64 b) + (BitVec.ofNat 64 a &&& ~~~ BitVec.ofNat 64 b) := by
    rw [BitVec.add_eq_or_of_and_eq_zero]
    · ext i hi
      simp only [BitVec.getElem_or, BitVec.getElem_and, BitVec.getElem_not]
      cases (BitVec.ofNat 64 a)[i] <;> cases (BitVec.ofNat 64 b)[i] <;> rfl
    · ext i hi
      simp only [BitVec.getElem_and, BitVec.getElem_not, BitVec.getElem_zero]
      cases (BitVec.ofNat 64 a)[i] <;> cases (BitVec.ofNat 64 b)[i] <;> rfl
  have hn := congrArg BitVec.toNat hx
  rw [BitVec.toNat_add] at hn
  have la : (BitVec.ofNat 64 a &&& BitVec.ofNat 64 b).toNat = a &&& b := by
    rw [BitVec.toNat_and, BitVec.toNat_ofNat, BitVec.toNat_ofNat, Nat.mod_eq_of_lt (by omega), Nat.mod_eq_of_lt (by omega)]
  have lb : (BitVec.ofNat 64 a &&& ~~~ BitVec.ofNat 64 b).toNat ≤ a := by
    rw [BitVec.toNat_and, BitVec.toNat_ofNat, Nat.mod_eq_of_lt (by omega)]; exact Nat.and_le_left
  have lc : a &&& b ≤ a := Nat.and_le_left
  rw [la, BitVec.toNat_ofNat, Nat.mod_eq_of_lt (by omega), Nat.mod_eq_of_lt (by omega)] at hn
  have e2 : bits .andNot .i64 (a : Int) (b : Int) = ((BitVec.ofNat 64 a &&& ~~~ BitVec.ofNat 64 b).toNat : Int) := by
    simp only [bits, BitVec.ofInt_natCast]
    exact wraps62 _ (Int.natCast_nonneg _) (by exact_mod_cast (Nat.lt_of_le_of_lt lb ha))
  refine ⟨?_, ?_, ?_⟩
  · show bits .andNot .i64 (a : Int) (b : Int) = (a : Int) - bits .and .i64 (a : Int) (b : Int)
    rw [e2, e1]; omega
  · rw [e1]; omega
  · show bits .and .i64 (a : Int) (b : Int) ≤ (a : Int)
    rw [e1]; omega
theorem rgtP_bd (d : DscP) (t : TokP) : 0 ≤ rgtP d t ∧ rgtP d t < 512 := rgtN_bd d t 9
theorem mskE_zero {m : Int} (h : mskE m = 0) : 1 ≤ m ∧ m ≤ 511 := by
  have := unl_zero (by decide) h
  rw [inB_true] at this
  exact this
/-- what is denied of a mask, and whether nothing is -/
theorem mask_bits {m : Int} (h : mskE m = 0) (d : DscP) (t : TokP) : bits .andNot .i64 m (rgtP d t) = m - bits .and .i64 m (rgtP d t) ∧ (bits .andNot .i64 m (rgtP d t) == 0) = (bits .and .i64 m (rgtP d t) == m) ∧ 0 ≤ bits .and .i64 m (rgtP d t) ∧ bits .and .i64 m (rgtP d t) ≤ m ∧ 1 ≤ m ∧ m ≤ 511 := by
  obtain ⟨h1, h2⟩ := mskE_zero h
  obtain ⟨h3, h4⟩ := rgtP_bd d t
  obtain ⟨g1, g2, g3⟩ := andNot_bits m (rgtP d t) (by omega) (by omega) h3 (by omega)
  refine ⟨g1, ?_, g2, g3, h1, h2⟩
  rw [g1]
  by_cases e : bits .and .i64 m (rgtP d t) = m
  · rw [e]; simp
  · have : (bits .and .i64 m (rgtP d t) == m) = false := by simpa using e
    rw [this]
    have : m - bits .and .i64 m (rgtP d t) ≠ 0 := by omega
    simpa using this

/-- copies -/
def DscO (d : DscP) (v : Value) (X : World) : Prop := ∃ B1 B2 k1 k2, v = dscV d B1 B2 k1 k2 ∧ Rd X X.heap.size B1 (acesV d.es) ∧ Rd X X.heap.size B2 (acesV d.us)
def TokO (t : TokP) (v : Value) (X : World) : Prop := ∃ B k, v = tokV t B k ∧ Rd X X.heap.size B (t.gs.map (.int .i64))
def IntsO (l : List Int) (v : Value) (X : World) : Prop := ∃ B k, v = .slice B l.length k ∧ Rd X X.heap.size B (l.map (.int .i64))
theorem DscO.stable {d : DscP} (v : Value) (X X' : World) (h : DscO d v X) (hb : Below X.heap.size X X') : DscO d v X' := by
  obtain ⟨B1, B2, k1, k2, h1, h2, h3⟩ := h; exact ⟨B1, B2, k1, k2, h1, h2.below' hb, h3.below' hb⟩
theorem TokO.stable {t : TokP} (v : Value) (X X' : World) (h : TokO t v X) (hb : Below X.heap.size X X') : TokO t v X' := by
  obtain ⟨B, k, h1, h2⟩ := h; exact ⟨B, k, h1, h2.below' hb⟩
theorem IntsO.stable {l : List Int} (v : Value) (X X' : World) (h : IntsO l v X) (hb : Below X.heap.size X X') : IntsO l v X' := by
  obtain ⟨B, k, h1, h2⟩ := h; exact ⟨B, k, h1, h2.below' hb⟩
def EqV (u v : Value) (_ : World) : Prop := v = u
theorem EqV.stable {u : Value} (v : Value) (X X' : World) (h : EqV u v X) (_ : Below X.heap.size X X') : EqV u v X' := h
/-- a row of numbers and an error -/
def RowT (B : Nat) (L : List Int) (r : Int) (v : Value) (X : World) : Prop := ∃ A c, v = .tuple #[.slice A L.length c, .int .i64 r] ∧ X.ownsRow B 3 1 (.slice A L.length c) L.length (L.map (.int .i64))
def RowS (B : Nat) (L : List Int) (v : Value) (X : World) : Prop := ∃ A c, v = .slice A L.length c ∧ X.ownsRow B 3 1 (.slice A L.length c) L.length (L.map (.int .i64))
theorem RowT.stable {B : Nat} {L : List Int} {r : Int} (v : Value) (X X' : World) (h : RowT B L r v X) (hb : Below X.heap.size X X') : RowT B L r v X' := by
  obtain ⟨A, c, h1, h2⟩ := h; exact ⟨A, c, h1, ownsRow_below h2 hb⟩
theorem RowS.stable {B : Nat} {L : List Int} (v : Value) (X X' : World) (h : RowS B L v X) (hb : Below X.heap.size X X') : RowS B L v X' := by
  obtain ⟨A, c, h1, h2⟩ := h; exact ⟨A, c, h1, ownsRow_below h2 hb⟩
theorem leaf_dsc {d : DscP} {A1 A2 : Option Addr} {c1 c2 : Nat} {X : World} {s : Sem Next} (h : s.run Tryd.prog X = .ok (.enter 11 #[dscV d A1 A2 c1 c2]) X) (h1 : d.es.length ≤ 500) (h2 : d.us.length ≤ 500) (hr1 : Rd X X.heap.size A1 (acesV d.es)) (hr2 : Rd X X.heap.size A2 (acesV d.us)) :
    LeavesR Tryd.prog (DscO d) X (s.run Tryd.prog X) := by
  refine leaves_call' h ((CopyDsc_any d A1 A2 c1 c2 X h1 h2 hr1 hr2).mono ?_)
  rintro e W1 ⟨B1, B2, k1, k2, rfl, g1, g2, hb⟩
  exact ⟨_, rfl, hb, B1, B2, k1, k2, rfl, g1, g2⟩
theorem leaf_tok {t : TokP} {A : Option Addr} {c : Nat} {X : World} {s : Sem Next} (h : s.run Tryd.prog X = .ok (.enter 12 #[tokV t A c]) X) (hl : t.gs.length ≤ 100000) (hr : Rd X X.heap.size A (t.gs.map (.int .i64))) :
    LeavesR Tryd.prog (TokO t) X (s.run Tryd.prog X) := by
  refine leaves_call' h ((CopyTok_any t A c X hl hr).mono ?_)
  rintro e W1 ⟨B, k, rfl, g1, hb⟩
  exact ⟨_, rfl, hb, B, k, rfl, g1⟩
/-- what was copied can be decided -/
theorem DT.copies {d : DscP} {t : TokP} {A1 A2 A : Option Addr} {w X : World} (h : DT d t A1 A2 A w) (hX : Below w.heap.size w X) {B1 B2 B : Option Addr} (h1 : Rd X X.heap.size B1 (acesV d.es)) (h2 : Rd X X.heap.size B2 (acesV d.us)) (h3 : Rd X X.heap.size B (t.gs.map (.int .i64))) : DT d t B1 B2 B X :=
  have := h.below hX
  ⟨h.l1, h.l2, h.l3, h1, h2, h3, this.gr⟩
end Go.Proofs.YtanicpgmbhfipaaDoor
