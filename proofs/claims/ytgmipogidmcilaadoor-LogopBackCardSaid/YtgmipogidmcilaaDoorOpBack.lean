/-
  Chapter 21, plain laws: bytes are read as they were.
-/
import Derived.Test.YtgmipogidmcilaaDoorOpOf2
namespace Go.Proofs.YtgmipogidmcilaaDoor
set_option linter.unusedVariables false
set_option linter.unusedSimpArgs false
open Go.RowKit

theorem drop_lit (n : Int) (c k : Nat) (h : c ≤ k) : (lit n c).drop k = [] := List.drop_of_length_le (by rw [lit_length]; exact h)
theorem take_lit (n : Int) (c k : Nat) (h : c ≤ k) : (lit n c).take k = lit n c := List.take_of_length_le (by rw [lit_length]; exact h)
theorem numAt_app (H R : List UInt8) (i c : Nat) (h : i + c ≤ H.length) : numAt (bs (H ++ R)) i c = num ((H.drop i).take c) := by
  unfold numAt
  rw [bl_bs, List.drop_append_of_le_length (by omega), List.take_append_of_le_length (by rw [List.length_drop]; omega)]
theorem num_lit' (n : Int) (c : Nat) (h0 : 0 ≤ n) (h1 : n < 256 ^ c) : num (lit n c) = n := by rw [num_lit]; exact Int.emod_eq_of_lt h0 h1
theorem ext_mid (H A B : List UInt8) (s : ByteArray) (hs : s = bs (H ++ A ++ B)) : bl (s.extract H.length (H.length + A.length)) = A ∧ bl (s.extract (H.length + A.length) s.size) = B := by
  subst hs
  constructor
  · rw [bl_extract, bl_bs, List.append_assoc, ← List.append_assoc, List.take_append_of_le_length (by simp), List.take_of_length_le (by simp), List.drop_left]
  · rw [bl_extract, bl_bs, bs_size, List.take_of_length_le (Nat.le_refl _), ← List.length_append, List.drop_left]

theorem opHead_eq (o : Op) : opBytesAt o 5 = lit o.k 1 ++ (lit o.a 2 ++ (lit o.e 2 ++ (lit o.c 2 ++ (lit (o.o.size : Int) 2 ++ lit (o.n.size : Int) 2)))) := by
  simp [opBytesAt, opNums]
theorem of_bytes {o : Op} (h : opOK o) : ofE (bs (opBytesL o)) = 0 ∧ ofR (bs (opBytesL o)) = o := by
  have hp := opOK_pos h
  have hb : 0 ≤ o.k ∧ o.k < 256 ∧ o.o.size ≤ 512 ∧ o.n.size ≤ 512 := by unfold opOK at h; omega
  have hl := opBytesAt_len o 5 (by omega)
  have hz : (bs (opBytesL o)).size = 11 + o.o.size + o.n.size := by
    rw [bs_size]; unfold opBytesL; rw [List.length_append, List.length_append, hl, bl_length, bl_length]
  have hn := fun i c (hi : i + c ≤ 11) => numAt_app (opBytesAt o 5) (bl o.o ++ bl o.n) i c (by rw [hl]; exact hi)
  have hL : opBytesL o = opBytesAt o 5 ++ (bl o.o ++ bl o.n) := by unfold opBytesL; rw [List.append_assoc]
  rw [← hL] at hn
  have n0 : numAt (bs (opBytesL o)) 0 1 = o.k := by
    rw [hn 0 1 (by omega), opHead_eq]
    simp [List.take_append, take_lit, lit_length]
    exact num_lit' _ _ hb.1 (by omega)
  have n1 : numAt (bs (opBytesL o)) 1 2 = o.a := by
    rw [hn 1 2 (by omega), opHead_eq]
    simp [List.drop_append, List.take_append, drop_lit, take_lit, lit_length]
    exact num_lit' _ _ hp.a.1 (by have := hp.a.2; omega)
  have n3 : numAt (bs (opBytesL o)) 3 2 = o.e := by
    rw [hn 3 2 (by omega), opHead_eq]
    simp [List.drop_append, List.take_append, drop_lit, take_lit, lit_length]
    exact num_lit' _ _ hp.e.1 (by have := hp.e.2; omega)
  have n5 : numAt (bs (opBytesL o)) 5 2 = o.c := by
    rw [hn 5 2 (by omega), opHead_eq]
    simp [List.drop_append, List.take_append, drop_lit, take_lit, lit_length]
    exact num_lit' _ _ hp.c.1 (by have := hp.c.2; omega)
  have n7 : numAt (bs (opBytesL o)) 7 2 = (o.o.size : Int) := by
    rw [hn 7 2 (by omega), opHead_eq]
    simp [List.drop_append, List.take_append, drop_lit, take_lit, lit_length]
    exact num_lit' _ _ (by omega) (by omega)
  have n9 : numAt (bs (opBytesL o)) 9 2 = (o.n.size : Int) := by
    rw [hn 9 2 (by omega), opHead_eq]
    simp [List.drop_append, List.take_append, drop_lit, take_lit, lit_length]
    exact num_lit' _ _ (by omega) (by omega)
  obtain ⟨x1, x2⟩ := ext_mid (opBytesAt o 5) (bl o.o) (bl o.n) (bs (opBytesL o)) rfl
  rw [hl, bl_length] at x1 x2
  have hv : ofV (bs (opBytesL o)) = o := by
    unfold ofV
    rw [n0, n1, n3, n5, n7, Int.toNat_natCast, bl_inj (s := (bs (opBytesL o)).extract 11 (11 + o.o.size)) (t := o.o) x1, bl_inj (s := (bs (opBytesL o)).extract (11 + o.o.size) (bs (opBytesL o)).size) (t := o.n) x2]
  have he : ofE (bs (opBytesL o)) = 0 := by
    unfold ofE
    rw [if_neg (by rw [hz]; omega), if_neg (by rw [hz]; omega), n7, n9, if_neg (by rw [hz]; omega), if_neg (by rw [hz]; omega), hv]
    exact (opE_iff o).2 h
  refine ⟨he, ?_⟩
  unfold ofR
  rw [if_pos he, hv]

def entHead (e : Ent) : List UInt8 := lit e.k 1 ++ lit (if e.f then 1 else 0) 1 ++ lit e.t 2 ++ lit e.p 4 ++ lit e.x 4 ++ lit e.g 2 ++ lit (e.d.size : Int) 2
theorem entHead_eq (e : Ent) : entHead e = lit e.k 1 ++ (lit (if e.f then 1 else 0) 1 ++ (lit e.t 2 ++ (lit e.p 4 ++ (lit e.x 4 ++ (lit e.g 2 ++ lit (e.d.size : Int) 2))))) := by
  unfold entHead; simp [List.append_assoc]
theorem ent_bytes {e : Ent} (h : entE e = 0) : entOfE (bs (entBytesL e)) = 0 ∧ entOfR (bs (entBytesL e)) = e := by
  obtain ⟨⟨k1, k2⟩, hr, _, hd1, hok⟩ := entE_zero h
  obtain ⟨⟨t1, t2⟩, ⟨p1, p2⟩, ⟨x1, x2⟩, g1, g2⟩ := entRng_true hr
  obtain ⟨o1, o2⟩ := of_bytes hok
  have hos : (bs (opBytesL e.o)).size ≤ 1035 := by
    have hb : e.o.o.size ≤ 512 ∧ e.o.n.size ≤ 512 := by unfold opOK at hok; omega
    rw [bs_size]; unfold opBytesL; rw [List.length_append, List.length_append, opBytesAt_len _ 5 (by omega), bl_length, bl_length]; omega
  have hl : (entHead e).length = 16 := by unfold entHead; simp [lit_length]
  have hL : entBytesL e = entHead e ++ bl e.d ++ opBytesL e.o := rfl
  have hz : (bs (entBytesL e)).size = 16 + e.d.size + (bs (opBytesL e.o)).size := by
    rw [hL, bs_size, List.length_append, List.length_append, hl, bl_length]; rfl
  have hn := fun i c (hi : i + c ≤ 16) => numAt_app (entHead e) (bl e.d ++ opBytesL e.o) i c (by rw [hl]; exact hi)
  rw [← List.append_assoc, ← hL] at hn
  have n0 : numAt (bs (entBytesL e)) 0 1 = e.k := by
    rw [hn 0 1 (by omega), entHead_eq]
    simp [List.take_append, take_lit, lit_length]
    exact num_lit' _ _ k1 (by omega)
  have n1 : numAt (bs (entBytesL e)) 1 1 = if e.f then 1 else 0 := by
    rw [hn 1 1 (by omega), entHead_eq]
    simp [List.drop_append, List.take_append, drop_lit, take_lit, lit_length]
    exact num_lit' _ _ (by split <;> omega) (by split <;> omega)
  have n2 : numAt (bs (entBytesL e)) 2 2 = e.t := by
    rw [hn 2 2 (by omega), entHead_eq]
    simp [List.drop_append, List.take_append, drop_lit, take_lit, lit_length]
    exact num_lit' _ _ t1 (by omega)
  have n4 : numAt (bs (entBytesL e)) 4 4 = e.p := by
    rw [hn 4 4 (by omega), entHead_eq]
    simp [List.drop_append, List.take_append, drop_lit, take_lit, lit_length]
    exact num_lit' _ _ p1 (by omega)
  have n8 : numAt (bs (entBytesL e)) 8 4 = e.x := by
    rw [hn 8 4 (by omega), entHead_eq]
    simp [List.drop_append, List.take_append, drop_lit, take_lit, lit_length]
    exact num_lit' _ _ x1 (by omega)
  have n12 : numAt (bs (entBytesL e)) 12 2 = e.g := by
    rw [hn 12 2 (by omega), entHead_eq]
    simp [List.drop_append, List.take_append, drop_lit, take_lit, lit_length]
    exact num_lit' _ _ g1 (by omega)
  have n14 : numAt (bs (entBytesL e)) 14 2 = (e.d.size : Int) := by
    rw [hn 14 2 (by omega), entHead_eq]
    simp [List.drop_append, List.take_append, drop_lit, take_lit, lit_length]
    exact num_lit' _ _ (by omega) (by omega)
  obtain ⟨y1, y2⟩ := ext_mid (entHead e) (bl e.d) (opBytesL e.o) (bs (entBytesL e)) rfl
  rw [hl, bl_length] at y1 y2
  have ht : entTail (bs (entBytesL e)) = bs (opBytesL e.o) := by
    unfold entTail
    rw [n14, Int.toNat_natCast]
    exact bl_inj y2
  have hf : ((if e.f then (1 : Int) else 0) == 1) = e.f := by cases e.f <;> rfl
  have hv : entOfV (bs (entBytesL e)) = e := by
    unfold entOfV
    rw [n0, n1, n2, n4, n8, n12, n14, ht, o2, hf, Int.toNat_natCast, bl_inj (s := (bs (entBytesL e)).extract 16 (16 + e.d.size)) (t := e.d) y1]
  have he : entOfE (bs (entBytesL e)) = 0 := by
    unfold entOfE
    rw [if_neg (by rw [hz]; omega), if_neg (by rw [hz]; omega), n14, if_neg (by rw [hz]; omega), n1, if_neg (by split <;> omega), ht, o1, if_neg (fun g => g rfl), hv]
    exact h
  refine ⟨he, ?_⟩
  unfold entOfR
  rw [if_pos he, hv]
end Go.Proofs.YtgmipogidmcilaaDoor
