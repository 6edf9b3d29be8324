/-
  Chapter 17: the law AccessSimplifies: its walk.
-/
import Derived.Test.YtanicpgmbhfipaaGreatDoorAcI
import Derived.Test.YtanicpgmbhfipaaGreatDoorSplD
namespace Go.Proofs.YtanicpgmbhfipaaGreatDoor
set_option linter.unusedVariables false
set_option linter.unusedSimpArgs false
set_option maxRecDepth 4000
open Go.RowKit Go.Sort Go.Shelf
def TelJ {ι : Type} (φ : ι → Value) (R : ι → World → Prop) (v : Value) (X : World) : Prop := ∃ i, v = φ i ∧ R i X
theorem TelJ.stable {ι : Type} {φ : ι → Value} {R : ι → World → Prop} (hR : ∀ i X X', R i X → Below X.heap.size X X' → R i X') (v : Value) (X X' : World) (h : TelJ φ R v X) (hb : Below X.heap.size X X') : TelJ φ R v X' := by
 obtain ⟨i, h1, h2⟩ := h
 exact ⟨i, h1, hR i X X' h2 hb⟩
theorem lv_telj {ι : Type} {φ : ι → Value} {R : ι → World → Prop} {X : World} {f : FuncId} {args : Array Value} {r : Result Next} (hx : r = .ok (.enter f args) X) (hc : Calls Tryz.prog f args X fun e X' => ∃ i, e = .returned (φ i) ∧ R i X' ∧ Below X.heap.size X X') : LeavesR Tryz.prog (TelJ φ R) X r := by
 subst hx
 exact ⟨rfl, hc.mono fun e X' ⟨i, he, hi, hX⟩ => ⟨_, he, hX, i, rfl, hi⟩⟩
def RdJ (xs ys : List AceP) (i : (Option Addr × Nat) × Option Addr × Nat) (X : World) : Prop := Rd X X.heap.size i.1.1 (acesV xs) ∧ Rd X X.heap.size i.2.1 (acesV ys)
theorem RdJ.grow {xs ys : List AceP} (i : (Option Addr × Nat) × Option Addr × Nat) (X X' : World) (h : RdJ xs ys i X) (hb : Below X.heap.size X X') : RdJ xs ys i X' := ⟨h.1.below' hb, h.2.below' hb⟩
def cpV (d : DscP) (i : (Option Addr × Nat) × Option Addr × Nat) : Value := dscV d i.1.1 i.2.1 i.1.2 i.2.2
def OwJ (d : DscP) (B : Nat) (i : (Option Addr × Nat) × Option Addr × Nat) (X : World) : Prop := X.ownsRow B 111 4 (.slice i.1.1 d.es.length i.1.2) d.es.length (acesV d.es) ∧ X.ownsRow B 111 4 (.slice i.2.1 d.us.length i.2.2) d.us.length (acesV d.us)
theorem OwJ.grow {d : DscP} {B : Nat} (i : (Option Addr × Nat) × Option Addr × Nat) (X X' : World) (h : OwJ d B i X) (hb : Below X.heap.size X X') : OwJ d B i X' := ⟨ownsRow_below h.1 hb, ownsRow_below h.2 hb⟩
theorem copy_ow (d : DscP) (A1 A2 : Option Addr) (c1 c2 B : Nat) (w : World) (hB : B ≤ w.heap.size) (h1 : d.es.length ≤ 500) (h2 : d.us.length ≤ 500) (hr1 : Rd w w.heap.size A1 (acesV d.es)) (hr2 : Rd w w.heap.size A2 (acesV d.us)) :
 Calls Tryz.prog 12 #[dscV d A1 A2 c1 c2] w fun e w' => ∃ i, e = .returned (cpV d i) ∧ OwJ d B i w' ∧ Below w.heap.size w w' := by
 refine (CopyDsc_own d A1 A2 c1 c2 w h1 h2 hr1 hr2).mono ?_
 rintro e w' ⟨B1, B2, k1, k2, rfl, g1, g2, hb⟩
 exact ⟨((B1, k1), B2, k2), rfl, ⟨ownsRow_mono g1 hB, ownsRow_mono g2 hB⟩, hb⟩
def row2E (T : TypeId) (sz : Nat) (v1 : Value) (n1 : Nat) (xs1 : List Value) (v2 : Value) (n2 : Nat) (xs2 : List Value) : Ent := .inv (fun b => v1.ownBlock = some b ∨ v2.ownBlock = some b) (fun X => X.ownsRow 0 T sz v1 n1 xs1 ∧ X.ownsRow 0 T sz v2 n2 xs2)
 (fun X X' ⟨h1, h2⟩ hb => ⟨Ent.ok_of (e := .row v1 n1 T sz xs1) h1 (fun b h => hb b (.inl h)), Ent.ok_of (e := .row v2 n2 T sz xs2) h2 (fun b h => hb b (.inr h))⟩)
theorem St.row2 {M : List Nat} {w X : World} {L : List Ent} {i n1 n2 c1 c2 sz : Nat} {T : TypeId} {A1 A2 : Option Addr} {xs1 xs2 : List Value} (h : St M w X L) (hi : L[i]? = some (row2E T sz (.slice A1 n1 c1) n1 xs1 (.slice A2 n2 c2) n2 xs2)) : Rd X X.heap.size A1 xs1 ∧ Rd X X.heap.size A2 xs2 := by
 obtain ⟨h1, h2⟩ : X.ownsRow 0 T sz (.slice A1 n1 c1) n1 xs1 ∧ X.ownsRow 0 T sz (.slice A2 n2 c2) n2 xs2 := h.at_ hi
 exact ⟨Rd.of_own h1, Rd.of_own h2⟩
theorem SameD_eq (a b : DscP) (h : a = b) (A1 A2 B1 B2 : Option Addr) (a1 a2 b1 b2 : Nat) (w : World) (hl1 : a.es.length ≤ 500) (hl2 : a.us.length ≤ 500) (hr1 : Rd w w.heap.size A1 (acesV a.es)) (hr2 : Rd w w.heap.size A2 (acesV a.us)) (hs1 : Rd w w.heap.size B1 (acesV b.es)) (hs2 : Rd w w.heap.size B2 (acesV b.us)) :
 Calls Tryz.prog 38 #[dscV a A1 A2 a1 a2, dscV b B1 B2 b1 b2] w fun e w' => e = .returned (.bool true) ∧ Below w.heap.size w w' := by
 subst h
 exact SameD_any a A1 A2 B1 B2 a1 a2 b1 b2 w hl1 hl2 hr1 hr2 hs1 hs2
end Go.Proofs.YtanicpgmbhfipaaGreatDoor
