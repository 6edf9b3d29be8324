/-
  Chapter 17: the reference's Difference and More.
-/
import Derived.Test.YtanicpgmbhfipaaDoorAcTks
import Derived.Test.YtanicpgmbhfipaaDoorAcL
namespace Go.Proofs.YtanicpgmbhfipaaDoor
set_option linter.unusedVariables false
set_option linter.unusedSimpArgs false
open Go.RowKit Go.Sort

def difR (a b : DscP) (L : List TokP) : TokP × Bool := match fstT xorF a b L with | some (t, _) => (t, true) | none => (noT, false)
def morR (a b : DscP) (L : List TokP) : TokP × Int := match fstT moreF a b L with | some (t, n) => (t, n) | none => (noT, 0)
theorem xorF_zero {x y : Int} (h0 : 0 ≤ x) (h1 : x < 512) (h2 : 0 ≤ y) (h3 : y < 512) : xorF x y = 0 ↔ x = y := by
  obtain ⟨a, rfl⟩ := Int.eq_ofNat_of_zero_le h0
  obtain ⟨b, rfl⟩ := Int.eq_ofNat_of_zero_le h2
  have ha : a < 512 := by omega
  have hb : b < 512 := by omega
  have e : xorF (a : Int) (b : Int) = ((a ^^^ b : Nat) : Int) := by
    have hx : a ^^^ b < 2 ^ 9 := Nat.xor_lt_two_pow (by omega) (by omega)
    unfold xorF bits
    simp only [BitVec.ofInt_natCast]
    have : (BitVec.ofNat 64 a ^^^ BitVec.ofNat 64 b).toNat = a ^^^ b := by
      rw [BitVec.toNat_xor, BitVec.toNat_ofNat, BitVec.toNat_ofNat, Nat.mod_eq_of_lt (by omega), Nat.mod_eq_of_lt (by omega)]
    show IntKind.i64.wrap ((BitVec.ofNat 64 a ^^^ BitVec.ofNat 64 b).toNat : Int) = _
    rw [this]
    exact wraps62 _ (Int.natCast_nonneg _) (by exact_mod_cast (show a ^^^ b < 2 ^ 62 by omega))
  rw [e]
  constructor
  · intro h
    have h' : a ^^^ b = 0 := by exact_mod_cast h
    have : a = b := by
      apply Nat.eq_of_testBit_eq
      intro i
      have := congrArg (Nat.testBit · i) h'
      simp at this
      exact this
    rw [this]
  · intro h
    have h' : a = b := by exact_mod_cast h
    subst h'
    simp
def DifRef (w : World) (t : TokP) (v : Value) (e : Ending) (w' : World) : Prop := ∃ A c, e = .returned (.tuple #[tokV t A c, v]) ∧ w'.ownsRow w.heap.size 3 1 (.slice A t.gs.length c) t.gs.length (t.gs.map (.int .i64)) ∧ Below w.heap.size w w'
theorem results_cell1b {P : Program} {fn : Func} {p q : Tmp} {ty : TypeId} (h : fn.results = #[.cell p ty, .tmp q]) (tmps : Array Value) (w : World) (g : Nat) (t : TypeId) (cs : Array Value) (d : TypeDesc) (u : Value)
    (hp : tmps.getD p undef = .pointer (some ⟨g, 0, none⟩)) (hq : tmps.getD q undef = u) (hg : Box w g cs t)
    (hu : P.underlying ty = some d) (hd : (match d with | .struct _ | .array _ _ => true | _ => false) = true) (hi : (P.info? ty).map (·.size) = some cs.size) :
    (results fn tmps).run P w = .ok (.tuple #[.agg cs, u]) w := by
  have hp' : tmps[p]?.getD undef = .pointer (some ⟨g, 0, none⟩) := by simpa using hp
  have hq' : tmps[q]?.getD undef = u := by simpa using hq
  simp [results, h, hp', hq', asAddr, run_loadVar_row w g t ty cs (0, 0) d hg hu hd hi]
end Go.Proofs.YtanicpgmbhfipaaDoor
