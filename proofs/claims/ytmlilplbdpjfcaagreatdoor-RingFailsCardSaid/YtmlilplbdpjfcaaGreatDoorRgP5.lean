/-
  Chapter 20: plain facts of what stands in a room. No program in sight.
-/
import Derived.Test.YtmlilplbdpjfcaaGreatDoorRgP3
import Derived.Test.YtmlilplbdpjfcaaGreatDoorRgPA
namespace Go.Proofs.YtmlilplbdpjfcaaGreatDoor
set_option linter.unusedVariables false
set_option linter.unusedSimpArgs false
open Go.RowKit
theorem encR_length {x : RecP} (h : x.b.size ≤ 3000) : ((encR x).length : Int) = szR x.b.size := by
 have := szR_in h
 unfold encR
 simp only [List.length_append, lit_length, zerosL_length, bl_length, List.length_cons, List.length_nil]
 omega
def frR (q : Int) (x : RecP) : Int := max (q * 448) (x.l - 1)
def toR (q : Int) (x : RecP) : Int := min ((q + 1) * 448) (bhR x)
def cutR (q : Int) (x : RecP) : List UInt8 := ((encR x).drop (frR q x - (x.l - 1)).toNat).take (toR q x - frR q x).toNat
theorem pgStp_eq (q : Int) (st : List UInt8 × Int × Int) (x : RecP) : pgStp q st x = if toR q x ≤ frR q x then st else (patL st.1 (frR q x - q * 448).toNat (cutR q x), toR q x - q * 448, x.s) := rfl
theorem cutR_length {q : Int} {x : RecP} (h : x.b.size ≤ 3000) (hw : ¬ toR q x ≤ frR q x) : ((cutR q x).length : Int) = toR q x - frR q x := by
 have h1 := encR_length h
 have h2 : toR q x ≤ bhR x := by unfold toR; omega
 have h3 : x.l - 1 ≤ frR q x := by unfold frR; omega
 unfold bhR at h2
 unfold cutR
 rw [List.length_take, List.length_drop]
 omega
theorem room_in {q : Int} {x : RecP} (hw : ¬ toR q x ≤ frR q x) : 0 ≤ frR q x - q * 448 ∧ toR q x - q * 448 ≤ 448 := by
 unfold frR toR at *; omega
theorem pgStp_length {q : Int} {st : List UInt8 × Int × Int} {x : RecP} (hl : st.1.length = 448) (h : x.b.size ≤ 3000) : (pgStp q st x).1.length = 448 := by
 rw [pgStp_eq]
 split
 · exact hl
 · rename_i hw
   have h1 := cutR_length h hw
   have h2 := room_in hw
   show (patL st.1 _ _).length = 448
   rw [patL_length (by omega), hl]
def pgK (q : Int) (l : List RecP) (k : Nat) : List UInt8 × Int × Int := (l.take k).foldl (pgStp q) (zerosL 448, 0, 0)
theorem pgK_succ (q : Int) (l : List RecP) (k : Nat) (h : k < l.length) : pgK q l (k + 1) = pgStp q (pgK q l k) l[k] := by
 unfold pgK
 rw [List.take_succ_eq_append_getElem h, List.foldl_append]; rfl
theorem pgK_all (q : Int) (l : List RecP) : pgK q l l.length = pgFld q l := by unfold pgK pgFld; rw [List.take_length]
structure PgI (q : Int) (st : List UInt8 × Int × Int) (e : Int) : Prop where
 len : st.1.length = 448
 u0 : 0 ≤ st.2.1
 u1 : st.2.1 ≤ 448
 ue : st.2.1 ≤ max 0 (e - q * 448)
 z : ∀ i : Nat, st.2.1 ≤ i → st.1.getD i 0 = 0
theorem PgI.zero (q e : Int) : PgI q (zerosL 448, 0, 0) e := ⟨zerosL_length 448, Int.le_refl _, by decide, by show (0 : Int) ≤ _; omega, fun i _ => zeros_getD 448 i⟩
theorem PgI.step {q e : Int} {st : List UInt8 × Int × Int} {x : RecP} (h : PgI q st e) (hs : x.b.size ≤ 3000) (he : e ≤ x.l - 1) : PgI q (pgStp q st x) (bhR x) := by
 have hz := szR_in hs
 have hb : x.l - 1 ≤ bhR x := by unfold bhR; omega
 have h3 := h.ue
 refine ⟨pgStp_length h.len hs, ?_, ?_, ?_, ?_⟩
 · rw [pgStp_eq]; split
   · exact h.u0
   · rename_i hw; have := room_in hw; show 0 ≤ toR q x - q * 448; omega
 · rw [pgStp_eq]; split
   · exact h.u1
   · rename_i hw; exact (room_in hw).2
 · rw [pgStp_eq]; split
   · omega
   · show toR q x - q * 448 ≤ _
     unfold toR; omega
 · intro i hi
   rw [pgStp_eq] at hi ⊢
   split
   · rename_i hw; rw [if_pos hw] at hi; exact h.z i hi
   · rename_i hw
     rw [if_neg hw] at hi
     have h1 := cutR_length hs hw
     have h2 := room_in hw
     have hi' : toR q x - q * 448 ≤ i := hi
     show (patL st.1 (frR q x - q * 448).toNat (cutR q x)).getD i 0 = 0
     rw [patL_getD (by rw [h.len]; omega), if_neg (by omega)]
     apply h.z
     have : x.l - 1 ≤ frR q x := by unfold frR; omega
     omega
theorem rec_behind {r : RngP} (h : ∀ m (hm : m < r.rs.length), recE r.r.o r.r.s (bfrR r.rs m) r.rs[m] = 0) (ho : r.r.o ≤ 100000000) (k : Nat) (hk : k + 1 < r.rs.length) : bhR r.rs[k] ≤ r.rs[k + 1].l - 1 := by
 have h1 := (recE_zero.1 (h (k + 1) hk)).2.2.1
 rw [bfrR_succ hk] at h1
 unfold ordB at h1
 simp only [Bool.or_eq_true, beq_iff_eq] at h1
 have := nxtR_in (p := bhR r.rs[k])
 omega
theorem pgK_inv {r : RngP} (q : Int) (h : ∀ m (hm : m < r.rs.length), recE r.r.o r.r.s (bfrR r.rs m) r.rs[m] = 0) (ho : r.r.o ≤ 100000000) : ∀ k, k ≤ r.rs.length → ∃ e, PgI q (pgK q r.rs k) e ∧ ∀ (hk : k < r.rs.length), e ≤ r.rs[k].l - 1
 | 0, _ => ⟨0, PgI.zero q 0, fun hk => by have := recs_bd r ho 0 hk fun m hm _ => h m hm; omega⟩
 | k + 1, hk => by
  obtain ⟨e, h1, h2⟩ := pgK_inv q h ho k (by omega)
  have hb := recs_bd r ho k (by omega) fun m hm _ => h m hm
  refine ⟨bhR r.rs[k], ?_, fun hk2 => rec_behind h ho k hk2⟩
  rw [pgK_succ q r.rs k (by omega)]
  exact h1.step hb.2.2 (h2 (by omega))
theorem PgI.whole {q e : Int} {st : List UInt8 × Int × Int} (h : PgI q st e) : st.1.take st.2.1.toNat ++ zerosL (448 - (st.1.take st.2.1.toNat).length) = st.1 ∧ (st.1.take st.2.1.toNat).length = st.2.1 := by
 have h0 := h.u0
 have h1 := h.u1
 have hl := h.len
 have h3 : (st.1.take st.2.1.toNat).length = st.2.1.toNat := by rw [List.length_take]; omega
 refine ⟨?_, by rw [h3]; omega⟩
 apply list_ext_getD
 · rw [List.length_append, zerosL_length, h3]; omega
 · intro i hi
   by_cases hi2 : i < st.2.1.toNat
   · rw [List.getD_eq_getElem?_getD, List.getElem?_append_left (by omega), List.getElem?_take, if_pos hi2, ← List.getD_eq_getElem?_getD]
   · rw [List.getD_eq_getElem?_getD, List.getElem?_append_right (by omega), ← List.getD_eq_getElem?_getD, zeros_getD, h.z i (by omega)]
theorem rsH_zero (x : RstP) (pg : Int) (i : Nat) (h : 22 ≤ i) : (rsH x pg).getD i 0 = 0 := by
 have e : rsH x pg = ([82, 83, 84, 82] ++ zerosL 4 ++ lit x.s 4 ++ lit x.c 4 ++ lit x.o 4 ++ lit pg 2) ++ zerosL 490 := by unfold rsH; simp only [List.append_assoc]
 have hl : ([82, 83, 84, 82] ++ zerosL 4 ++ lit x.s 4 ++ lit x.c 4 ++ lit x.o 4 ++ lit pg 2 : List UInt8).length = 22 := by simp only [List.length_append, lit_length, zerosL_length, List.length_cons, List.length_nil]
 rw [e, List.getD_eq_getElem?_getD, List.getElem?_append_right (by omega), ← List.getD_eq_getElem?_getD, zeros_getD]
end Go.Proofs.YtmlilplbdpjfcaaGreatDoor
