/-
  Chapter 1, plain words: what is encoded is decoded, and the other way round.
-/
import Derived.Test.YtiomfkgbaemmkaaDoorDecP
import Derived.Test.YtiomfkgbaemmkaaDoorEnc2
namespace Go.Proofs.YtiomfkgbaemmkaaDoor
set_option linter.unusedVariables false
set_option linter.unusedSimpArgs false
open Go.RowKit

theorem tl_loop (s : ByteArray) (n : Nat) : ∀ (i : Nat) (r : List UInt8), s.size - i = n → ByteArray.toList.loop s i r = r.reverse ++ (bl s).drop i := by
  induction n with
  | zero =>
    intro i r h
    unfold ByteArray.toList.loop
    rw [if_neg (by omega), List.drop_of_length_le (by rw [bl_length]; omega), List.append_nil]
  | succ n ih =>
    intro i r h
    unfold ByteArray.toList.loop
    rw [if_pos (by omega), ih (i + 1) _ (by omega), drop_bl s i (by omega), List.reverse_cons, List.append_assoc]
    have : s.get! i = s[i]'(by omega) := by
      show s.data[i]! = _
      rw [getElem!_pos s.data i (by show i < s.size; omega)]; rfl
    rw [this]; rfl
theorem tl_eq (s : ByteArray) : s.toList = bl s := by
  unfold ByteArray.toList
  rw [tl_loop s _ 0 [] rfl]; rfl
theorem tl_empty (s : ByteArray) : s.toList.isEmpty = true ↔ s = ⟨#[]⟩ := by
  rw [tl_eq, List.isEmpty_iff]
  exact ⟨fun h => bl_inj h, fun h => by rw [h]⟩

/-- the value alone -/
def dvOf (v : VC) : DV := ⟨v.n, v.s, v.ns⟩
def fieldD (f : Fld) (v : DV) : List UInt8 := fieldL f.1 f.2 v.n v.s v.ns
def valD (f : Fld) (v : DV) : Int := valE f.1 f.2 v.n v.s v.ns
def okL : List Fld → List DV → Prop
  | [], [] => True
  | f :: l, v :: D => fldE f.1 f.2 = 0 ∧ valD f v = 0 ∧ okL l D
  | _, _ => False
def encL : List Fld → List DV → List UInt8
  | f :: l, v :: D => fieldD f v ++ encL l D
  | _, _ => []

theorem listN_cons (M : List UInt8) (c : Nat) : listN M (c + 1) = num (M.take 2) :: listN (M.drop 2) c := by
  unfold listN
  rw [List.range_succ_eq_map, List.map_cons, List.map_map]
  congr 1
  apply List.map_congr_left
  intro i _
  show num (((M.drop (2 * (i + 1))).take 2)) = num (((M.drop 2).drop (2 * i)).take 2)
  rw [List.drop_drop, show 2 * (i + 1) = 2 + 2 * i by omega]
theorem listN_lit : ∀ (ns : List Int) (R : List UInt8), allB ns = true → listN (ns.flatMap (fun x => lit x 2) ++ R) ns.length = ns
  | [], R, _ => rfl
  | x :: ns, R, h => by
    simp only [allB, List.all_cons, Bool.and_eq_true] at h
    obtain ⟨h1, h2⟩ := h
    rw [inB_true] at h1
    rw [List.length_cons, listN_cons, List.flatMap_cons, List.append_assoc]
    have e1 : (lit x 2 ++ (ns.flatMap (fun x => lit x 2) ++ R)).take 2 = lit x 2 := by
      rw [List.take_append_of_le_length (by rw [lit_length]; omega), List.take_of_length_le (by rw [lit_length]; omega)]
    have e2 : (lit x 2 ++ (ns.flatMap (fun x => lit x 2) ++ R)).drop 2 = ns.flatMap (fun x => lit x 2) ++ R := by
      rw [List.drop_append_of_le_length (by rw [lit_length]; omega), List.drop_of_length_le (by rw [lit_length]; omega), List.nil_append]
    rw [e1, e2, listN_lit ns R h2, num_lit]
    congr 1
    exact Int.emod_eq_of_lt h1.1 (by have : (256 : Int) ^ 2 = 65536 := by decide
                                     omega)
theorem lit_listN : ∀ (c : Nat) (M : List UInt8), 2 * c ≤ M.length → (listN M c).flatMap (fun x => lit x 2) = M.take (2 * c) ∧ allB (listN M c) = true
  | 0, M, _ => by simp [listN, allB]
  | c + 1, M, h => by
    obtain ⟨h1, h2⟩ := lit_listN c (M.drop 2) (by rw [List.length_drop]; omega)
    have hl : (M.take 2).length = 2 := by rw [List.length_take]; omega
    have hn := num_bound (M.take 2)
    rw [hl] at hn
    have hp : (256 : Int) ^ 2 = 65536 := by decide
    rw [hp] at hn
    rw [listN_cons, List.flatMap_cons]
    constructor
    · rw [h1]
      have e := lit_num (M.take 2)
      rw [hl] at e
      rw [e, show 2 * (c + 1) = 2 + 2 * c by omega, List.take_add]
    · unfold allB at *
      rw [List.all_cons, h2, Bool.and_true, inB_true]; omega
theorem allZ (l : List UInt8) : l.all (· == 0) = true ↔ l = zerosL l.length := by
  unfold zerosL
  rw [List.all_eq_true, List.eq_replicate_iff]
  simp
theorem form_of {k n : Int} {s : ByteArray} {ns : List Int} (h : formB k n s ns = true) : (k = 0 ∨ n = 0) ∧ (k = 1 ∨ k = 2 ∨ s = ⟨#[]⟩) ∧ (k = 3 ∨ ns = []) := by
  unfold formB at h
  simp only [Bool.and_eq_true, Bool.or_eq_true, beq_iff_eq, tl_empty] at h
  obtain ⟨⟨h1, h2⟩, h3⟩ := h
  refine ⟨h1, ?_, ?_⟩
  · rcases h2 with (h | h) | h
    · exact .inl h
    · exact .inr (.inl h)
    · exact .inr (.inr h)
  · rcases h3 with h | h
    · exact .inl h
    · exact .inr (List.length_eq_zero_iff.1 (by omega))
theorem lit1c (n : Int) : lit n 1 = [UInt8.ofNat (n % 256).toNat] := rfl
theorem getD_lit1 (n : Nat) (h : n < 256) (R : List UInt8) : ((lit n 1 ++ R).getD 0 0).toNat = n := by
  show (UInt8.ofNat ((n : Int) % 256).toNat).toNat = n
  rw [UInt8.toNat_ofNat']; omega
theorem drop_lit1 (n : Int) (R : List UInt8) : (lit n 1 ++ R).drop 1 = R := rfl

theorem decF_field {k z n : Int} {s : ByteArray} {ns : List Int} (hz : fldE k z = 0) (h : valE k z n s ns = 0) (R : List UInt8) :
    decF k z (fieldL k z n s ns ++ R) = (⟨n, s, ns⟩, (fieldL k z n s ns).length, 0) := by
  obtain ⟨k0, k4, z1, z2⟩ := fldE_zero hz
  obtain ⟨hf, hfit, hv1, hv2⟩ := valE_zero h
  obtain ⟨f1, f2, f3⟩ := form_of hf
  have : k = 0 ∨ k = 1 ∨ k = 2 ∨ k = 3 ∨ k = 4 := by omega
  rcases this with rfl | rfl | rfl | rfl | rfl
  · replace z1 : 1 ≤ z := z1
    replace f2 : s = ⟨#[]⟩ := by rcases f2 with h | h | h; omega; omega; exact h
    replace f3 : ns = [] := by rcases f3 with h | h; omega; exact h
    subst f2 f3
    have hi : inB n 0 (256 ^ z.toNat - 1) = true := by
      simp only [fitsB, fits0, Bool.and_eq_true] at hfit
      simpa using hfit.1
    rw [inB_true] at hi
    have e : fieldL 0 z n ⟨#[]⟩ [] = lit n z.toNat := rfl
    rw [e]
    unfold decF
    rw [if_neg (by omega), if_neg (by rw [List.length_append, lit_length]; omega), if_pos rfl, List.take_append_of_le_length (by rw [lit_length]; omega), List.take_of_length_le (by rw [lit_length]; omega), num_lit, lit_length, Int.emod_eq_of_lt hi.1 (by omega)]
  · replace f1 : n = 0 := by rcases f1 with h | h; omega; exact h
    replace f3 : ns = [] := by rcases f3 with h | h; omega; exact h
    subst f1 f3
    have hs := hv1 rfl
    have e : fieldL 1 z 0 s [] = bl s := rfl
    have hl : (bl s).length = z.toNat := by rw [bl_length]; omega
    rw [e]
    unfold decF
    rw [if_neg (by omega), if_neg (by rw [List.length_append, bl_length]; omega), if_neg (by omega), if_pos rfl, List.take_append_of_le_length (by omega), List.take_of_length_le (by omega), hl]
    rfl
  · replace f1 : n = 0 := by rcases f1 with h | h; omega; exact h
    replace f3 : ns = [] := by rcases f3 with h | h; omega; exact h
    replace z2 : z ≤ 255 := z2
    subst f1 f3
    have hs := (hv2 rfl).1
    have e : fieldL 2 z 0 s [] = lit s.size 1 ++ bl s := rfl
    rw [e, List.append_assoc]
    unfold decF
    rw [getD_lit1 s.size (by omega), drop_lit1, if_pos (.inl rfl), if_neg (by rw [List.length_append, lit_length]; omega), if_neg (by simp only [List.length_append, lit_length, bl_length]; rw [if_neg (by omega)]; omega), if_neg (by omega), if_pos rfl, List.length_append, lit_length, bl_length,
      List.take_append_of_le_length (by rw [bl_length]; omega), List.take_of_length_le (by rw [bl_length]; omega)]
    rfl
  · replace f1 : n = 0 := by rcases f1 with h | h; omega; exact h
    replace f2 : s = ⟨#[]⟩ := by rcases f2 with h | h | h; omega; omega; exact h
    replace z2 : z ≤ 127 := z2
    subst f1 f2
    have hs := (hv2 rfl).2
    have hall : allB ns = true := by
      simp only [fitsB, Bool.and_eq_true] at hfit
      exact hfit.2
    have e : fieldL 3 z 0 ⟨#[]⟩ ns = lit ns.length 1 ++ ns.flatMap (fun x => lit x 2) := rfl
    rw [e, List.append_assoc]
    unfold decF
    rw [getD_lit1 ns.length (by omega), drop_lit1, if_pos (.inr rfl), if_neg (by rw [List.length_append, lit_length]; omega), if_neg (by simp only [List.length_append, lit_length, flatMap_lit2]; simp only [if_true]; omega), if_neg (by omega), if_neg (by omega), List.length_append, lit_length, flatMap_lit2, listN_lit ns R hall]
  · replace f1 : n = 0 := by rcases f1 with h | h; omega; exact h
    replace f2 : s = ⟨#[]⟩ := by rcases f2 with h | h | h; omega; omega; exact h
    replace f3 : ns = [] := by rcases f3 with h | h; omega; exact h
    replace z1 : 1 ≤ z := z1
    subst f1 f2 f3
    have e : fieldL 4 z 0 ⟨#[]⟩ [] = zerosL z.toNat := rfl
    have hl : (zerosL z.toNat).length = z.toNat := by simp [zerosL]
    rw [e]
    unfold decF
    rw [if_neg (by omega), if_neg (by rw [List.length_append, hl]; omega), if_neg (by omega), if_neg (by omega), List.take_append_of_le_length (by omega), List.take_of_length_le (by omega), if_pos ((allZ _).2 (by rw [hl])), hl]
    rfl

theorem field_decF {k z : Int} {L : List UInt8} (hz : fldE k z = 0) (h : (decF k z L).2.2 = 0) :
    valE k z (decF k z L).1.n (decF k z L).1.s (decF k z L).1.ns = 0 ∧ fieldL k z (decF k z L).1.n (decF k z L).1.s (decF k z L).1.ns = L.take (decF k z L).2.1 := by
  obtain ⟨k0, k4, z1, z2⟩ := fldE_zero hz
  have : k = 0 ∨ k = 1 ∨ k = 2 ∨ k = 3 ∨ k = 4 := by omega
  have ee : (⟨#[]⟩ : ByteArray).toList.isEmpty = true := (tl_empty _).2 rfl
  rcases this with rfl | rfl | rfl | rfl | rfl
  · replace z1 : 1 ≤ z := z1
    unfold decF at h ⊢
    rw [if_neg (by omega)] at h ⊢
    by_cases h2 : (L.length : Int) < z
    · rw [if_pos h2] at h; simp at h
    · rw [if_neg h2, if_pos rfl]
      have hl : (L.take z.toNat).length = z.toNat := by rw [List.length_take]; omega
      have hb := num_bound (L.take z.toNat)
      have e := lit_num (L.take z.toNat)
      rw [hl] at hb e
      refine ⟨?_, e⟩
      have hi : inB (num (L.take z.toNat)) 0 (256 ^ z.toNat - 1) = true := by rw [inB_true]; omega
      unfold valE
      simp [formB, fitsB, fits0, allB, firstE, unl, opn, ee, hi]
  · unfold decF at h ⊢
    rw [if_neg (by omega)] at h ⊢
    by_cases h2 : (L.length : Int) < z
    · rw [if_pos h2] at h; simp at h
    · rw [if_neg h2, if_neg (by omega), if_pos rfl]
      have hl : (L.take z.toNat).length = z.toNat := by rw [List.length_take]; omega
      replace z1 : 1 ≤ z := z1
      refine ⟨?_, rfl⟩
      have hs : (((bs (L.take z.toNat)).size : Int) == z) = true := by rw [bs_size, hl, beq_iff_eq]; omega
      unfold valE
      simp only [hs]
      simp [formB, fitsB, fits0, allB, firstE, unl, opn]
  · unfold decF at h ⊢
    rw [if_pos (.inl rfl)] at h ⊢
    by_cases h2 : L.length = 0
    · rw [if_pos h2] at h; simp at h
    · rw [if_neg h2] at h ⊢
      rw [if_neg (by omega : ¬ ((2 : Int) = 3))] at h ⊢
      by_cases h3 : L.length < 1 + 1 * (L.getD 0 0).toNat
      · rw [if_pos h3] at h; simp at h
      · rw [if_neg h3] at h ⊢
        by_cases h4 : z < (L.getD 0 0).toNat
        · rw [if_pos h4] at h; simp at h
        · rw [if_neg h4, if_pos rfl]
          obtain ⟨x, M, rfl⟩ : ∃ x M, L = x :: M := by cases L with | nil => simp at h2 | cons x M => exact ⟨x, M, rfl⟩
          have hg : ((x :: M).getD 0 0) = x := rfl
          rw [hg] at h3 h4 ⊢
          rw [List.length_cons] at h3
          have hl : (M.take x.toNat).length = x.toNat := by rw [List.length_take]; omega
          refine ⟨?_, ?_⟩
          · have hs : decide (((bs (M.take x.toNat)).size : Int) ≤ z) = true := by rw [bs_size, hl, decide_eq_true_eq]; omega
            have hz0 : decide ((0 : Int) ≤ z) = true := by rw [decide_eq_true_eq]; omega
            show valE 2 z 0 (bs (M.take x.toNat)) [] = 0
            unfold valE
            simp only [hs]
            simp [formB, fitsB, fits0, allB, firstE, unl, opn]
            omega
          · show lit (M.take x.toNat).length 1 ++ M.take x.toNat = (x :: M).take (1 + x.toNat)
            rw [hl, Nat.add_comm, List.take_succ_cons, lit1c]
            have : UInt8.ofNat ((x.toNat : Int) % 256).toNat = x := by
              apply UInt8.toNat_inj.1
              rw [UInt8.toNat_ofNat']
              have := x.toNat_lt
              omega
            rw [this]; rfl
  · unfold decF at h ⊢
    rw [if_pos (.inr rfl)] at h ⊢
    by_cases h2 : L.length = 0
    · rw [if_pos h2] at h; simp at h
    · rw [if_neg h2] at h ⊢
      rw [if_pos (rfl : (3 : Int) = 3)] at h ⊢
      by_cases h3 : L.length < 1 + 2 * (L.getD 0 0).toNat
      · rw [if_pos h3] at h; simp at h
      · rw [if_neg h3] at h ⊢
        by_cases h4 : z < (L.getD 0 0).toNat
        · rw [if_pos h4] at h; simp at h
        · rw [if_neg h4, if_neg (by omega : ¬ ((3 : Int) = 2))]
          obtain ⟨x, M, rfl⟩ : ∃ x M, L = x :: M := by cases L with | nil => simp at h2 | cons x M => exact ⟨x, M, rfl⟩
          have hg : ((x :: M).getD 0 0) = x := rfl
          rw [hg] at h3 h4 ⊢
          rw [List.length_cons] at h3
          have hd : (x :: M).drop 1 = M := rfl
          rw [hd]
          obtain ⟨e1, e2⟩ := lit_listN x.toNat M (by omega)
          refine ⟨?_, ?_⟩
          · show valE 3 z 0 ⟨#[]⟩ (listN M x.toNat) = 0
            unfold valE
            simp only [listN_length]
            have h5 : decide ((x.toNat : Int) ≤ z) = true := by rw [decide_eq_true_eq]; omega
            have hz0 : decide ((0 : Int) ≤ z) = true := by rw [decide_eq_true_eq]; omega
            have h6 : decide (((⟨#[]⟩ : ByteArray).size : Int) ≤ z) = true := hz0
            simp only [h5, h6]
            simp [formB, fitsB, fits0, firstE, unl, opn, ee, e2]
          · show lit (listN M x.toNat).length 1 ++ (listN M x.toNat).flatMap (fun x => lit x 2) = (x :: M).take (1 + 2 * x.toNat)
            rw [listN_length, e1, Nat.add_comm, List.take_succ_cons, lit1c]
            have : UInt8.ofNat ((x.toNat : Int) % 256).toNat = x := by
              apply UInt8.toNat_inj.1
              rw [UInt8.toNat_ofNat']
              have := x.toNat_lt
              omega
            rw [this]; rfl
  · replace z1 : 1 ≤ z := z1
    unfold decF at h ⊢
    rw [if_neg (by omega)] at h ⊢
    by_cases h2 : (L.length : Int) < z
    · rw [if_pos h2] at h; simp at h
    · rw [if_neg h2, if_neg (by omega), if_neg (by omega)] at h ⊢
      by_cases h3 : (L.take z.toNat).all (· == 0) = true
      · rw [if_pos h3]
        have hl : (L.take z.toNat).length = z.toNat := by rw [List.length_take]; omega
        rw [allZ, hl] at h3
        refine ⟨?_, h3.symm⟩
        show valE 4 z 0 ⟨#[]⟩ [] = 0
        unfold valE
        simp [formB, fitsB, fits0, allB, firstE, unl, opn, ee]
      · rw [if_neg h3] at h; simp at h

theorem decG_enc : ∀ (l : List Fld) (D acc : List DV) (pre L : List UInt8), okL l D → L = pre ++ encL l D → decG L l acc pre.length = (acc ++ D, L.length, 0)
  | [], [], acc, pre, L, _, h => by subst h; simp [decG, encL]
  | [], _ :: _, _, _, _, h, _ => h.elim
  | _ :: _, [], _, _, _, h, _ => h.elim
  | f :: l, v :: D, acc, pre, L, ⟨h1, h2, h3⟩, h => by
    have e : L.drop pre.length = fieldD f v ++ encL l D := by rw [h]; simp [encL]
    have e2 := decF_field (n := v.n) (s := v.s) (ns := v.ns) h1 h2 (encL l D)
    unfold decG
    rw [e]
    unfold fieldD
    rw [e2]
    simp only [ne_eq, not_true_eq_false, if_false]
    have := decG_enc l D (acc ++ [⟨v.n, v.s, v.ns⟩]) (pre ++ fieldD f v) L h3 (by rw [h]; simp [encL])
    rw [List.length_append] at this
    unfold fieldD at this
    rw [this]
    simp
theorem enc_decG (L : List UInt8) : ∀ (l : List Fld) (acc : List DV) (a : Nat), (∀ f ∈ l, fldE f.1 f.2 = 0) → a ≤ L.length → (decG L l acc a).2.2 = 0 →
    ∃ D, (decG L l acc a).1 = acc ++ D ∧ okL l D ∧ a ≤ (decG L l acc a).2.1 ∧ (decG L l acc a).2.1 ≤ L.length ∧ L.take (decG L l acc a).2.1 = L.take a ++ encL l D
  | [], acc, a, _, ha, h => ⟨[], by simp [decG], trivial, Nat.le_refl _, ha, by simp [decG, encL]⟩
  | f :: l, acc, a, hf, ha, h => by
    unfold decG at h ⊢
    by_cases h0 : (decF f.1 f.2 (L.drop a)).2.2 = 0
    · rw [if_neg (by simpa using h0)] at h ⊢
      have hz := hf f (by simp)
      have hlen := decF_len (fld_bd hz).1 h0
      rw [List.length_drop] at hlen
      obtain ⟨v1, v2⟩ := field_decF hz h0
      obtain ⟨D, d1, d2, d3, d4, d5⟩ := enc_decG L l (acc ++ [(decF f.1 f.2 (L.drop a)).1]) (a + (decF f.1 f.2 (L.drop a)).2.1) (fun g hg => hf g (by simp [hg])) (by omega) h
      refine ⟨(decF f.1 f.2 (L.drop a)).1 :: D, by rw [d1]; simp, ⟨hz, v1, d2⟩, by omega, d4, ?_⟩
      rw [d5, List.take_add, ← v2, List.append_assoc]; rfl
    · rw [if_pos (by simpa using h0)] at h
      exact absurd h h0

theorem encL_append : ∀ (l : List Fld) (D : List DV) (f : Fld) (v : DV), l.length = D.length → encL (l ++ [f]) (D ++ [v]) = encL l D ++ fieldD f v
  | [], [], f, v, _ => by simp [encL]
  | [], _ :: _, _, _, h => by simp at h
  | _ :: _, [], _, _, h => by simp at h
  | g :: l, x :: D, f, v, h => by
    show fieldD g x ++ encL (l ++ [f]) (D ++ [v]) = _
    rw [encL_append l D f v (by simpa using h), ← List.append_assoc]; rfl
theorem encAt_encL (l : List Fld) (vs : List VC) (h : vs.length = l.length) : ∀ k, k ≤ l.length → encAt l vs k = encL (l.take k) ((vs.take k).map dvOf)
  | 0, _ => by simp [encAt, encL]
  | k + 1, hk => by
    have e1 : l.take (k + 1) = l.take k ++ [l[k]] := List.take_succ_eq_append_getElem (by omega)
    have e2 : vs.take (k + 1) = vs.take k ++ [vs[k]'(by omega)] := List.take_succ_eq_append_getElem (by omega)
    rw [encAt_succ, encAt_encL l vs h k (by omega), e1, e2, List.map_append, List.map_cons, List.map_nil, encL_append _ _ _ _ (by simp; omega)]
    congr 1
    unfold fieldD dvOf
    have g1 : l.getD k (0, 0) = l[k] := by rw [List.getD_eq_getElem?_getD, List.getElem?_eq_getElem (by omega)]; rfl
    have g2 : vs.getD k vc0 = vs[k]'(by omega) := by rw [List.getD_eq_getElem?_getD, List.getElem?_eq_getElem (by omega)]; rfl
    rw [g1, g2]
theorem okL_of (l : List Fld) : ∀ (D : List DV), D.length = l.length → (∀ (j : Nat) (h : j < l.length) (h' : j < D.length), fldE l[j].1 l[j].2 = 0 ∧ valD l[j] D[j] = 0) → okL l D := by
  induction l with
  | nil => intro D h _; cases D with | nil => trivial | cons _ _ => simp at h
  | cons f l ih =>
    intro D h hj
    cases D with
    | nil => simp at h
    | cons v D =>
      obtain ⟨a, b⟩ := hj 0 (by simp) (by simp)
      exact ⟨a, b, ih D (by simpa using h) (fun j h1 h2 => hj (j + 1) (by simpa using h1) (by simpa using h2))⟩
theorem okL_at : ∀ (l : List Fld) (D : List DV), okL l D → D.length = l.length ∧ ∀ (j : Nat) (h : j < l.length) (h' : j < D.length), fldE l[j].1 l[j].2 = 0 ∧ valD l[j] D[j] = 0
  | [], [], _ => ⟨rfl, fun j h => absurd h (by simp)⟩
  | [], _ :: _, h => h.elim
  | _ :: _, [], h => h.elim
  | f :: l, v :: D, ⟨h1, h2, h3⟩ => by
    obtain ⟨a, b⟩ := okL_at l D h3
    refine ⟨by simp [a], fun j h h' => ?_⟩
    cases j with
    | zero => exact ⟨h1, h2⟩
    | succ j => exact b j (by simpa using h) (by simpa using h')
theorem eachE_all {α : Type} (f : Nat → α → Int) : ∀ (l : List α) (i : Nat), (∀ j (h : j < l.length), f (i + j) l[j] = 0) → (eachE f i l) = (0, 0)
  | [], _, _ => rfl
  | x :: l, i, h => by
    unfold eachE
    have h0 : f i x = 0 := h 0 (by simp)
    rw [if_pos h0]
    exact eachE_all f l (i + 1) (fun j hj => by have := h (j + 1) (by simpa using hj); rw [show i + (j + 1) = i + 1 + j by omega] at this; exact this)
end Go.Proofs.YtiomfkgbaemmkaaDoor
