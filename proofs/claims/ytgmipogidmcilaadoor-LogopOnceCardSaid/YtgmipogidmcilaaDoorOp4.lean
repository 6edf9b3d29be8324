/-
  Chapter 21, plain laws: an operation is a change of the bytes that it touches; operations that are apart, in any order; inverses; the number of a page.
-/
import Derived.Test.YtgmipogidmcilaaDoorOp3
namespace Go.Proofs.YtgmipogidmcilaaDoor
set_option linter.unusedVariables false
set_option linter.unusedSimpArgs false
open Go.RowKit

theorem subL_take (p : List UInt8) (l h k : Nat) (hk : l + k ≤ h) : (subL p l h).take k = subL p l (l + k) := by
  apply List.ext_getElem?
  intro i
  rw [List.getElem?_take, subL_get, subL_get]
  by_cases a : i < k
  · rw [if_pos a, if_pos (by omega), if_pos (by omega)]
  · rw [if_neg a, if_neg (by omega)]
theorem subL_drop (p : List UInt8) (l h k : Nat) : (subL p l h).drop k = subL p (l + k) h := by
  apply List.ext_getElem?
  intro i
  rw [List.getElem?_drop, subL_get, subL_get, show l + k + i = l + (k + i) by omega]
theorem drop_take_sub (p : List UInt8) (l k : Nat) : (p.drop l).take k = subL p l (l + k) := by
  apply List.ext_getElem?
  intro i
  rw [List.getElem?_take, List.getElem?_drop, subL_get]
  by_cases a : i < k
  · rw [if_pos a, if_pos (by omega)]
  · rw [if_neg a, if_neg (by omega)]
theorem subL_all (p : List UInt8) (n : Nat) (h : p.length = n) : subL p 0 n = p := by unfold subL; rw [← h, List.take_length, List.drop_zero]
theorem size_zero {s : ByteArray} (h : s.size = 0) : s = ⟨#[]⟩ := ByteArray.size_eq_zero_iff.1 h
theorem bl_zero {s : ByteArray} (h : s.size = 0) : bl s = [] := by rw [size_zero h]

structure OpRep (p : ByteArray) (x : Op) : Prop where
  le : tLo x ≤ tHi x
  in' : tHi x ≤ 512
  mid : ∀ m, m.length = tHi x - tLo x → (opMid x m).length = m.length
  do' : bl (opDo p x) = putL (bl p) (tLo x) (tHi x) (opMid x (subL (bl p) (tLo x) (tHi x)))
  fit : opFit p x = opFitM x (subL (bl p) (tLo x) (tHi x))

theorem op_rep {p : ByteArray} {x : Op} (hp : p.size = 512) (h : opOK x) : OpRep p x := by
  have hpl : (bl p).length = 512 := by rw [bl_length]; exact hp
  obtain ⟨k, a, e, c, o, n⟩ := x
  unfold opOK at h
  dsimp only at h
  rcases h with ⟨rfl, rfl, rfl, rfl, ho, hn⟩ | ⟨rfl, rfl, rfl, hs, h1, h2, h3, h4⟩ | ⟨rfl, rfl, ho, h1, h2, h3, h4, h5⟩ | ⟨rfl, rfl, hn, h1, h2, h3, h4, h5⟩ | ⟨hk, rfl, ho, hn, h1, h2, h3, h4⟩ | ⟨rfl, rfl, rfl, rfl, ho, hn⟩
  · refine ⟨Nat.le_refl _, Nat.zero_le _, fun m hm => rfl, ?_, rfl⟩
    show bl p = putL (bl p) 0 0 (subL (bl p) 0 0)
    rw [putL_sub _ _ _ (Nat.le_refl _) (by omega)]
  · obtain ⟨A, rfl⟩ := Int.eq_ofNat_of_zero_le h3
    have e1 : tLo ⟨1, A, 0, 0, o, n⟩ = A := rfl
    have e2 : tHi ⟨1, A, 0, 0, o, n⟩ = A + o.size := rfl
    refine ⟨by omega, by omega, fun m hm => ?_, ?_, ?_⟩
    · show (bl n).length = m.length
      rw [bl_length]; omega
    · rw [e1, e2]
      show bl (patS p A n) = putL (bl p) A (A + o.size) (bl n)
      rw [bl_patS, ← hs]; rfl
    · rw [e1, e2]
      show (((bl p).drop A).take o.size == bl o) = (subL (bl p) A (A + o.size) == bl o)
      rw [drop_take_sub]
  · obtain ⟨A, rfl⟩ := Int.eq_ofNat_of_zero_le h3
    obtain ⟨E, rfl⟩ := Int.eq_ofNat_of_zero_le (show 0 ≤ e by omega)
    have e1 : tLo ⟨2, A, E, 0, o, n⟩ = A := rfl
    have e2 : tHi ⟨2, A, E, 0, o, n⟩ = E + n.size := rfl
    have e3 : ((E : Int) - A).toNat = E - A := by omega
    refine ⟨by omega, by omega, fun m hm => ?_, ?_, ?_⟩
    · show (bl n ++ m.take ((E : Int) - A).toNat).length = m.length
      rw [List.length_append, bl_length, List.length_take]; omega
    · rw [e1, e2]
      show insL (bl p) A E (bl n) = putL (bl p) A (E + n.size) (bl n ++ (subL (bl p) A (E + n.size)).take ((E : Int) - A).toNat)
      rw [e3, subL_take _ _ _ _ (by omega), show A + (E - A) = E by omega]
      unfold insL putL subL
      rw [bl_length]; simp only [List.append_assoc]
    · rw [e1, e2]
      show zeroL (((bl p).drop E).take n.size) = zeroL ((subL (bl p) A (E + n.size)).drop ((E : Int) - A).toNat)
      rw [e3, subL_drop, drop_take_sub, show A + (E - A) = E by omega]
  · obtain ⟨A, rfl⟩ := Int.eq_ofNat_of_zero_le h3
    obtain ⟨E, rfl⟩ := Int.eq_ofNat_of_zero_le (show 0 ≤ e by omega)
    have e1 : tLo ⟨3, A, E, 0, o, n⟩ = A := rfl
    have e2 : tHi ⟨3, A, E, 0, o, n⟩ = E := rfl
    refine ⟨by omega, by omega, fun m hm => ?_, ?_, ?_⟩
    · show (m.drop o.size ++ List.replicate o.size 0).length = m.length
      rw [List.length_append, List.length_replicate, List.length_drop]; omega
    · rw [e1, e2]
      show remL (bl p) A E o.size = putL (bl p) A E ((subL (bl p) A E).drop o.size ++ List.replicate o.size 0)
      rw [subL_drop]
      unfold remL putL subL
      simp only [List.append_assoc]
    · rw [e1, e2]
      show (((bl p).drop A).take o.size == bl o) = ((subL (bl p) A E).take o.size == bl o)
      rw [drop_take_sub, subL_take _ _ _ _ (by omega)]
  · obtain ⟨A, rfl⟩ := Int.eq_ofNat_of_zero_le h1
    obtain ⟨C, rfl⟩ := Int.eq_ofNat_of_zero_le (show 0 ≤ c by omega)
    rcases hk with rfl | rfl
    all_goals
      refine ⟨?_, ?_, ?_, ?_, ?_⟩
      · show ((A : Int) / 8).toNat ≤ (((A : Int) + C - 1) / 8 + 1).toNat
        omega
      · show (((A : Int) + C - 1) / 8 + 1).toNat ≤ 512
        omega
      · intro m hm
        exact bitsPut_length _ _ _ _
      · show bitsPut (bl p) A C _ = putL (bl p) ((A : Int) / 8).toNat (((A : Int) + C - 1) / 8 + 1).toNat (bitsPut (subL (bl p) ((A : Int) / 8).toNat (((A : Int) + C - 1) / 8 + 1).toNat) (A - 8 * ((A : Int) / 8).toNat) C _)
        rw [← bitsPut_put (bl p) _ _ _ A C _ (by omega) (by omega) (subL_length _ _ _ (by omega)) (by omega) (by omega), putL_sub _ _ _ (by omega) (by omega)]
      · show bitsAll (bl p) A C _ = bitsAll (subL (bl p) ((A : Int) / 8).toNat (((A : Int) + C - 1) / 8 + 1).toNat) (A - 8 * ((A : Int) / 8).toNat) C _
        rw [bitsAll_sub _ _ _ _ _ _ (by omega) (by omega)]
  · refine ⟨(by show 0 ≤ 512; omega), Nat.le_refl 512, fun m hm => ?_, ?_, ?_⟩
    · show (bl n).length = m.length
      rw [bl_length, hm]; exact hn
    · show bl n = putL (bl p) 0 512 (bl n)
      unfold putL
      rw [List.drop_of_length_le (by omega), List.append_nil, List.take_zero, List.nil_append]
    · show (bl p == bl o) = (subL (bl p) 0 512 == bl o)
      rw [subL_all _ _ hpl]

theorem opDo_size {p : ByteArray} {x : Op} (hp : p.size = 512) (h : opOK x) : (opDo p x).size = 512 := by
  have r := op_rep hp h
  have hpl : (bl p).length = 512 := by rw [bl_length]; exact hp
  rw [← bl_length, r.do', putL_length _ _ _ _ r.le (by rw [hpl]; exact r.in') (by rw [r.mid _ (subL_length _ _ _ (by rw [hpl]; exact r.in'))]; exact subL_length _ _ _ (by rw [hpl]; exact r.in'))]
  exact hpl

/-- whether two operations are apart -/
def opApart (a b : Op) : Bool := decide (max (opTch a).1 (opTch b).1 ≥ min (opTch a).2 (opTch b).2)
theorem opTch_bd {x : Op} (h : opOK x) : 0 ≤ (opTch x).1 ∧ (opTch x).1 ≤ (opTch x).2 ∧ ((opTch x).1 = (opTch x).2 → (opTch x).1 = 0) := by
  obtain ⟨k, a, e, c, o, n⟩ := x
  unfold opOK at h
  dsimp only at h
  rcases h with ⟨rfl, rfl, rfl, rfl, ho, hn⟩ | ⟨rfl, rfl, rfl, hs, h1, h2, h3, h4⟩ | ⟨rfl, rfl, ho, h1, h2, h3, h4, h5⟩ | ⟨rfl, rfl, hn, h1, h2, h3, h4, h5⟩ | ⟨hk, rfl, ho, hn, h1, h2, h3, h4⟩ | ⟨rfl, rfl, rfl, rfl, ho, hn⟩
  · exact ⟨Int.le_refl 0, Int.le_refl 0, fun _ => rfl⟩
  · simp only [opTch]; simp; omega
  · simp only [opTch]; simp; omega
  · simp only [opTch]; simp; omega
  · rcases hk with rfl | rfl <;> (simp only [opTch]; simp; omega)
  · exact ⟨Int.le_refl 0, (by show (0 : Int) ≤ 512; omega), fun h => absurd h (by show ¬ (0 : Int) = 512; omega)⟩
theorem opApart_off {a b : Op} (ha : opOK a) (hb : opOK b) (h : opApart a b = true) : offR (tLo a) (tHi a) (tLo b) (tHi b) := by
  unfold opApart at h
  rw [decide_eq_true_eq] at h
  have h1 := opTch_bd ha
  have h2 := opTch_bd hb
  unfold offR tLo tHi
  omega
theorem opApart_comm (a b : Op) : opApart a b = opApart b a := by
  unfold opApart
  congr 1
  rw [eq_iff_iff, Int.max_comm, Int.min_comm]

/-- operations that are apart, in any order -/
theorem op_comm {p : ByteArray} {a b : Op} (hp : p.size = 512) (ha : opOK a) (hb : opOK b) (hd : offR (tLo a) (tHi a) (tLo b) (tHi b)) :
    opFit (opDo p a) b = opFit p b ∧ opDo (opDo p a) b = opDo (opDo p b) a := by
  have hpl : (bl p).length = 512 := by rw [bl_length]; exact hp
  have ra := op_rep hp ha
  have rb := op_rep hp hb
  have rab := op_rep (opDo_size hp ha) hb
  have rba := op_rep (opDo_size hp hb) ha
  have la : tHi a ≤ (bl p).length := by rw [hpl]; exact ra.in'
  have lb : tHi b ≤ (bl p).length := by rw [hpl]; exact rb.in'
  have sa := subL_length (bl p) (tLo a) _ la
  have sb := subL_length (bl p) (tLo b) _ lb
  have ma := (ra.mid _ sa).trans sa
  have mb := (rb.mid _ sb).trans sb
  have hd' : offR (tLo b) (tHi b) (tLo a) (tHi a) := hd.elim .inr .inl
  refine ⟨?_, ?_⟩
  · rw [rab.fit, ra.do', sub_other _ _ _ _ _ _ ra.le la ma hd rb.le, rb.fit]
  · apply bl_inj
    rw [rab.do', rba.do', ra.do', rb.do', sub_other _ _ _ _ _ _ ra.le la ma hd rb.le, sub_other _ _ _ _ _ _ rb.le lb mb hd' ra.le, put_comm _ _ _ _ _ _ _ ra.le la ma rb.le lb mb hd]

/-! ### inverses -/
theorem opInv_ok {x : Op} (h : opOK x) : opOK (opInv x) ∧ opInv (opInv x) = x := by
  obtain ⟨k, a, e, c, o, n⟩ := x
  unfold opOK at h
  dsimp only at h
  rcases h with ⟨rfl, rfl, rfl, rfl, ho, hn⟩ | ⟨rfl, rfl, rfl, hs, h1, h2, h3, h4⟩ | ⟨rfl, rfl, ho, h1, h2, h3, h4, h5⟩ | ⟨rfl, rfl, hn, h1, h2, h3, h4, h5⟩ | ⟨hk, rfl, ho, hn, h1, h2, h3, h4⟩ | ⟨rfl, rfl, rfl, rfl, ho, hn⟩
  · exact ⟨.inl ⟨rfl, rfl, rfl, rfl, hn, ho⟩, rfl⟩
  · exact ⟨.inr (.inl ⟨rfl, rfl, rfl, hs.symm, by show 0 < n.size; omega, by show n.size ≤ 200; omega, h3, by show (n.size : Int) ≤ 512 - a; omega⟩), rfl⟩
  · refine ⟨.inr (.inr (.inr (.inl ⟨rfl, rfl, ho, h1, h2, h3, by show a + n.size ≤ e + n.size; omega, by show e + n.size ≤ 512; omega⟩))), ?_⟩
    show Op.mk 2 a (e + n.size - n.size) 0 o n = _
    rw [show e + (n.size : Int) - n.size = e by omega]
  · refine ⟨.inr (.inr (.inl ⟨rfl, rfl, hn, h1, h2, h3, by show a ≤ e - o.size; omega, by show e - (o.size : Int) ≤ 512 - o.size; omega⟩)), ?_⟩
    show Op.mk 3 a (e - o.size + o.size) 0 o n = _
    rw [show e - (o.size : Int) + o.size = e by omega]
  · rcases hk with rfl | rfl
    · exact ⟨.inr (.inr (.inr (.inr (.inl ⟨.inr rfl, rfl, hn, ho, h1, h2, h3, h4⟩)))), rfl⟩
    · exact ⟨.inr (.inr (.inr (.inr (.inl ⟨.inl rfl, rfl, hn, ho, h1, h2, h3, h4⟩)))), rfl⟩
  · exact ⟨.inr (.inr (.inr (.inr (.inr ⟨rfl, rfl, rfl, rfl, hn, ho⟩)))), rfl⟩
theorem zeroL_eq {l : List UInt8} (h : zeroL l = true) : l = List.replicate l.length 0 := by
  apply List.eq_replicate_of_mem
  intro b hb
  unfold zeroL at h
  rw [List.all_eq_true] at h
  exact beq_iff_eq.1 (h b hb)
theorem zeroL_rep (n : Nat) : zeroL (List.replicate n 0) = true := by
  unfold zeroL; rw [List.all_eq_true]; intro b hb; rw [List.eq_of_mem_replicate hb]; rfl

theorem inv_mid {x : Op} (h : opOK x) {m : List UInt8} (hm : m.length = tHi x - tLo x) (hf : opFitM x m = true) :
    tLo (opInv x) = tLo x ∧ tHi (opInv x) = tHi x ∧ opFitM (opInv x) (opMid x m) = true ∧ opMid (opInv x) (opMid x m) = m := by
  obtain ⟨k, a, e, c, o, n⟩ := x
  unfold opOK at h
  dsimp only at h
  rcases h with ⟨rfl, rfl, rfl, rfl, ho, hn⟩ | ⟨rfl, rfl, rfl, hs, h1, h2, h3, h4⟩ | ⟨rfl, rfl, ho, h1, h2, h3, h4, h5⟩ | ⟨rfl, rfl, hn, h1, h2, h3, h4, h5⟩ | ⟨hk, rfl, ho, hn, h1, h2, h3, h4⟩ | ⟨rfl, rfl, rfl, rfl, ho, hn⟩
  · exact ⟨rfl, rfl, rfl, rfl⟩
  · refine ⟨rfl, ?_, ?_, ?_⟩
    · show (a + n.size).toNat = (a + o.size).toNat
      rw [hs]
    · show (bl n == bl n) = true
      exact beq_self_eq_true _
    · show bl o = m
      exact (beq_iff_eq.1 hf).symm
  · obtain ⟨A, rfl⟩ := Int.eq_ofNat_of_zero_le h3
    obtain ⟨E, rfl⟩ := Int.eq_ofNat_of_zero_le (show 0 ≤ e by omega)
    have e3 : ((E : Int) - A).toNat = E - A := by omega
    have hml : m.length = E + n.size - A := hm
    have hf' : zeroL (m.drop (E - A)) = true := by rw [← e3]; exact hf
    refine ⟨rfl, ?_, ?_, ?_⟩
    · show ((E : Int) + n.size).toNat = ((E : Int) + n.size).toNat
      rfl
    · show ((bl n ++ m.take ((E : Int) - A).toNat).take n.size == bl n) = true
      rw [← bl_length n, List.take_left]; exact beq_self_eq_true _
    · show (bl n ++ m.take ((E : Int) - A).toNat).drop n.size ++ List.replicate n.size 0 = m
      have e5 := zeroL_eq hf'
      rw [← bl_length n, List.drop_left, bl_length, e3]
      rw [List.length_drop, show m.length - (E - A) = n.size by omega] at e5
      conv => rhs; rw [← List.take_append_drop (E - A) m, e5]
  · obtain ⟨A, rfl⟩ := Int.eq_ofNat_of_zero_le h3
    obtain ⟨E, rfl⟩ := Int.eq_ofNat_of_zero_le (show 0 ≤ e by omega)
    have e3 : ((E : Int) - o.size - A).toNat = E - o.size - A := by omega
    have hml : m.length = E - A := hm
    have hf' : m.take o.size = bl o := beq_iff_eq.1 hf
    refine ⟨rfl, ?_, ?_, ?_⟩
    · show ((E : Int) - o.size + o.size).toNat = (E : Int).toNat
      rw [show (E : Int) - o.size + o.size = E by omega]
    · show zeroL ((m.drop o.size ++ List.replicate o.size 0).drop ((E : Int) - o.size - A).toNat) = true
      rw [e3, List.drop_append, List.drop_drop, List.drop_of_length_le (by omega), List.nil_append, List.length_drop, show E - o.size - A - (m.length - o.size) = 0 by omega, List.drop_zero]
      exact zeroL_rep _
    · show bl o ++ (m.drop o.size ++ List.replicate o.size 0).take ((E : Int) - o.size - A).toNat = m
      rw [e3, List.take_append_of_le_length (by rw [List.length_drop]; omega), List.take_of_length_le (by rw [List.length_drop]; omega), ← hf', List.take_append_drop]
  · obtain ⟨A, rfl⟩ := Int.eq_ofNat_of_zero_le h1
    obtain ⟨C, rfl⟩ := Int.eq_ofNat_of_zero_le (show 0 ≤ c by omega)
    rcases hk with rfl | rfl
    · have hb : (A - 8 * ((A : Int) / 8).toNat) + C ≤ 8 * m.length := by
        have : m.length = (((A : Int) + C - 1) / 8 + 1).toNat - ((A : Int) / 8).toNat := hm
        omega
      exact ⟨rfl, rfl, bitsAll_put _ _ _ true hb, bitsPut_back _ _ _ true hb hf⟩
    · have hb : (A - 8 * ((A : Int) / 8).toNat) + C ≤ 8 * m.length := by
        have : m.length = (((A : Int) + C - 1) / 8 + 1).toNat - ((A : Int) / 8).toNat := hm
        omega
      exact ⟨rfl, rfl, bitsAll_put _ _ _ false hb, bitsPut_back _ _ _ false hb hf⟩
  · refine ⟨rfl, rfl, ?_, ?_⟩
    · show (bl n == bl n) = true
      exact beq_self_eq_true _
    · show bl o = m
      exact (beq_iff_eq.1 hf).symm

/-- there and back -/
theorem op_back {p : ByteArray} {x : Op} (hp : p.size = 512) (h : opOK x) (hf : opFit p x = true) : opFit (opDo p x) (opInv x) = true ∧ opDo (opDo p x) (opInv x) = p := by
  have hpl : (bl p).length = 512 := by rw [bl_length]; exact hp
  have r := op_rep hp h
  have ri := op_rep (opDo_size hp h) (opInv_ok h).1
  have lx : tHi x ≤ (bl p).length := by rw [hpl]; exact r.in'
  have sx := subL_length (bl p) (tLo x) _ lx
  have mx := (r.mid _ sx).trans sx
  rw [r.fit] at hf
  obtain ⟨g1, g2, g3, g4⟩ := inv_mid h sx hf
  refine ⟨by rw [ri.fit, g1, g2, r.do', sub_putL _ _ _ _ r.le lx mx]; exact g3, ?_⟩
  apply bl_inj
  rw [ri.do', g1, g2, r.do', sub_putL _ _ _ _ r.le lx mx, g4, put_putL _ _ _ _ _ r.le lx mx sx, putL_sub _ _ _ r.le lx]
end Go.Proofs.YtgmipogidmcilaaDoor
