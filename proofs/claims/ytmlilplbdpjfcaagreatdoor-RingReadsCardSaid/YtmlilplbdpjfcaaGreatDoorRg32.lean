/-
  Chapter 20: the log that is read, the reference's way.
-/
import Derived.Test.YtmlilplbdpjfcaaGreatDoorRg31
import Derived.Test.YtmlilplbdpjfcaaGreatDoorRg25
import Derived.Test.YtmlilplbdpjfcaaGreatDoorRgB
namespace Go.Proofs.YtmlilplbdpjfcaaGreatDoor
set_option linter.unusedVariables false
set_option linter.unusedSimpArgs false
set_option maxRecDepth 4000
open Go.RowKit Go.Sort
theorem st_joinE {F : Prop} {P : Program} {Q : Exit → Act → World → Prop} {a : Act} {X : World} {N : Nat} {l : List (Nat × Value)} {c : Code} {M : List Nat} {w : World} {L : List Ent} (ha : Has a N l) (hS : St M w X L) (J : List (Nat × Value)) (ks : List Nat) (E : List Ent → List Ent)
    (h1 : c.wp P (Exit.then (fun a' X' => Has a' N (J ++ keepL l ks) ∧ St M w X' (E L) ∧ F) Q) a X) (h2 : ∀ a' X', Has a' N (J ++ keepL l ks) → St M w X' (E L) → F → Q .normal a' X') : c.wp P Q a X :=
  st_join _ h1 fun a' X' h => h2 a' X' h.1 h.2.1 h.2.2
attribute [local irreducible] nAt opL opB
def rsS (s : List UInt8) (pg : Int) : Nat → Bool × RstP × RstP
  | 0 => (false, rst0, rst0)
  | k + 1 => match arIn s pg k with
    | none => rsS s pg k
    | some x => if !(rsS s pg k).1 || decide (x.s > (rsS s pg k).2.1.s) then (true, x, (rsS s pg k).2.1) else (true, (rsS s pg k).2.1, x)
theorem rs_final (s : List UInt8) (pg : Int) : rsIn s pg = if (rsS s pg 2).1 then some ((rsS s pg 2).2.1, if (rsS s pg 2).2.2.s = (rsS s pg 2).2.1.s - 1 then (rsS s pg 2).2.2 else rst0) else none := by
  unfold rsIn
  cases h0 : arIn s pg 0 with
  | none =>
   cases h1 : arIn s pg 1 with
   | none => simp [rsS, h0, h1]
   | some b => simp [rsS, h0, h1]
  | some a =>
   cases h1 : arIn s pg 1 with
   | none => simp [rsS, h0, h1]
   | some b =>
    simp only [rsS, h0, h1, Bool.not_false, Bool.true_or, if_true, Bool.not_true, Bool.false_or, decide_eq_true_eq]
    by_cases h : a.s < b.s
    · rw [if_pos h, if_pos (show b.s > a.s from h)]; simp
    · rw [if_neg h, if_neg (show ¬ b.s > a.s from h)]; simp
theorem rc_mod {s : List UInt8} {pg : Nat} {top a aft : Int} {y : RecP} (h : rcIn s pg top a aft = some y) : (y.l - 1) % 8 = 0 := by
  have := rc_fields (x := ⟨s, pg, top⟩) h
  omega
theorem af_mod {s : List UInt8} {pg : Nat} {top : Int} {y z : RecP} (h : afIn s pg top y = some z) : (z.l - 1) % 8 = 0 := by
  unfold afIn at h
  split at h
  · rename_i y' hf
    injection h with h
    rw [Option.filter_eq_some_iff] at hf
    rw [← h]; exact rc_mod hf.1
  · split at h
    · cases h
    · split at h
      · cases h
      · rename_i y' hr
        have hz : y' = z := by
          split at h
          · injection h
          · split at h
            · cases h
            · split at h
              · injection h
              · cases h
        rw [← hz]; exact rc_mod hr
def ok1 (s : List UInt8) (pg : Nat) (top : Int) (x : RecP) : Bool := (stIn s pg top (bhR x).toNat x.s).isSome && (bhR x % 448 == 0 || (stO s pg top (bhR x).toNat x.s).s == x.s)
def ok2 (s : List UInt8) (pg : Nat) (top : Int) (x : RecP) : Bool := (stIn s pg top (nxtR (bhR x)).toNat x.s).isSome && (decide ((stO s pg top (nxtR (bhR x)).toNat x.s).s > x.s) || (rtT s pg top ((bhR x).toNat / 448)).1 == bhR x % 448)
theorem af_by {s : List UInt8} {pg : Nat} (hs : s.length = 512 * pg) (hpg : 4 ≤ pg) (top : Int) (htop : top < 4294967296) {x : RecP} (h0 : 0 ≤ bhR x ∧ bhR x ≤ 200000000 ∧ bhR x % 8 = 0) :
    afIn s pg top x = if ok1 s pg top x then some (stO s pg top (bhR x).toNat x.s) else if bhR x % 448 = 0 then none else if ok2 s pg top x then some (stO s pg top (nxtR (bhR x)).toNat x.s) else none := by
  have hn := nxtR_in (p := bhR x)
  have e1 : rcIn s pg top (bhR x) x.s = stIn s pg top (bhR x).toNat x.s := by
    rw [st_rc hs hpg top htop (bhR x).toNat (by omega) (by omega) x.s x.s (.inl rfl), Int.toNat_of_nonneg h0.1]
  have e2 : rcIn s pg top (nxtR (bhR x)) x.s = stIn s pg top (nxtR (bhR x)).toNat x.s := by
    rw [st_rc hs hpg top htop (nxtR (bhR x)).toNat (by omega) (by omega) x.s x.s (.inl rfl), Int.toNat_of_nonneg (by omega)]
  have key : bhR x % 448 ≠ 0 → ∀ z : RecP, (if x.s < z.s then some z else match pgIn s pg top ((bhR x).toNat / 448) with
      | none => none
      | some (_, b) => if (b.length : Int) = bhR x % 448 then some z else none) = if (decide (z.s > x.s) || (rtT s pg top ((bhR x).toNat / 448)).1 == bhR x % 448) = true then some z else none := fun hne z => by
    have hrt := rt_in hs hpg top htop ((bhR x).toNat / 448) (by omega)
    by_cases h : x.s < z.s
    · rw [if_pos h, decide_eq_true (show z.s > x.s from h)]; rfl
    · rw [if_neg h, decide_eq_false (show ¬ z.s > x.s from h), Bool.false_or]
      unfold rtT
      cases hr : rtIn s pg top ((bhR x).toNat / 448) with
      | none =>
       rw [hr] at hrt
       simp only at hrt ⊢
       rw [hrt, if_neg]
       rw [beq_iff_eq]; omega
      | some v =>
       obtain ⟨u, t, c⟩ := v
       rw [hr] at hrt
       simp only at hrt ⊢
       obtain ⟨hp, hu0, hu1, hc, _⟩ := hrt
       rw [hp]
       simp only
       have hl : ((c.take u.toNat).length : Int) = u := by rw [List.length_take]; omega
       rw [hl]
       by_cases hu : u = bhR x % 448
       · rw [if_pos hu, if_pos (by rw [beq_iff_eq]; exact hu)]
       · rw [if_neg hu, if_neg (by rw [beq_iff_eq]; exact hu)]
  unfold afIn
  rw [e1, e2]
  unfold ok1 ok2 stO
  cases h1 : stIn s pg top (bhR x).toNat x.s with
  | some y =>
   simp only [Option.getD_some, Option.isSome_some, Bool.true_and]
   by_cases hc : (bhR x % 448 == 0 || y.s == x.s) = true
   · rw [if_pos hc, Option.filter_some, if_pos hc]
   · rw [if_neg hc, Option.filter_some, if_neg hc]
     simp only
     split
     · rfl
     · rename_i hne
       cases h2 : stIn s pg top (nxtR (bhR x)).toNat x.s with
       | none => rfl
       | some z => exact key hne z
  | none =>
   simp only [Option.filter_none, Option.isSome_none, Bool.false_and]
   rw [if_neg (show ¬ false = true by decide)]
   split
   · rfl
   · rename_i hne
     cases h2 : stIn s pg top (nxtR (bhR x)).toNat x.s with
     | none => rfl
     | some z => exact key hne z
end Go.Proofs.YtmlilplbdpjfcaaGreatDoor
