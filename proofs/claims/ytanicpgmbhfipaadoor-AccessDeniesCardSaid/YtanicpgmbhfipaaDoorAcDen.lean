/-
  Chapter 17: what AccessDenies asks of decisions (plain): denied first; rights without an entry that denies.
-/
import Derived.Test.YtanicpgmbhfipaaDoorAcDel
namespace Go.Proofs.YtanicpgmbhfipaaDoor
set_option linter.unusedVariables false
set_option linter.unusedSimpArgs false
open Go.RowKit Go.Sort

theorem eachE_all {α : Type} (f : Nat → α → Int) : ∀ (l : List α) (i : Nat), (∀ j (h : j < l.length), f (i + j) l[j] = 0) → eachE f i l = (0, 0)
  | [], _, _ => rfl
  | x :: l, i, h => by
    unfold eachE
    rw [if_pos (show f i x = 0 from h 0 (by simp))]
    refine eachE_all f l (i + 1) fun j hj => ?_
    have := h (j + 1) (by simpa using hj)
    rw [show i + 1 + j = i + (j + 1) by omega]
    exact this
theorem dscE_mk {d : DscP} (h1 : hldB d.o = true) (h2 : hldB d.g = true) (l1 : d.es.length ≤ 16) (l2 : d.us.length ≤ 16) (h3 : d.he = false → d.es = []) (h4 : ∀ a ∈ d.es, aceE a = 0 ∧ a.k ≠ 2) (h5 : ∀ a ∈ d.us, aceE a = 0 ∧ a.k = 2) : dscE d = 0 := by
  unfold dscE dscP pairE
  rw [h1, h2, if_neg (by decide), if_neg (by omega), if_neg (fun ⟨a, b⟩ => b (h3 a)), eachE_all]
  intro j hj
  rw [Nat.zero_add]
  have hj2 : j < d.es.length + d.us.length := by simpa using hj
  unfold entE
  by_cases hje : j < d.es.length
  · have e : (d.es ++ d.us)[j] = d.es[j] := List.getElem_append_left hje
    obtain ⟨g1, g2⟩ := h4 d.es[j] (List.getElem_mem hje)
    rw [e, g1, if_neg (by decide), show decide (d.es.length ≤ j) = false by simp; omega]
    have : (d.es[j].k == 2) = false := by simpa using g2
    rw [this]; rfl
  · have e : (d.es ++ d.us)[j] = d.us[j - d.es.length] := List.getElem_append_right (by omega)
    obtain ⟨g1, g2⟩ := h5 d.us[j - d.es.length] (List.getElem_mem (by omega))
    rw [e, g1, if_neg (by decide), show decide (d.es.length ≤ j) = true by simp; omega, g2]; rfl
/-- the rank of an entry -/
def rankA (a : AceP) : Int := (if a.k = 1 then 0 else 1) + (if bitI a.f 4 = true then 2 else 0)
def ascR (l : List AceP) : Prop := ∀ i (h : i + 1 < l.length), rankA l[i] ≤ rankA l[i + 1]
theorem ascR_all {l : List AceP} (h : ascR l) : ∀ j i (hij : i ≤ j) (hj : j < l.length), rankA (l[i]'(by omega)) ≤ rankA l[j]
  | 0, i, hij, hj => by
    obtain rfl : i = 0 := by omega
    exact Int.le_refl _
  | j + 1, i, hij, hj => by
    by_cases e : i = j + 1
    · subst e; exact Int.le_refl _
    · exact Int.le_trans (ascR_all h j i (by omega) (by omega)) (h j hj)
/-- a right that is granted, and denied by an entry that counts, is not decided by an entry -/
theorem denied_first {d : DscP} {t : TokP} (hr : ascR d.es) (hn : ∀ a ∈ d.es, bitI a.f 4 = false) {i k : Nat} (hi : i < d.es.length) (hk : k < 9)
    (h1 : d.es[i].k = 1) (h2 : hitB t k d.es[i] = true) (h3 : bitI (rgtP d t) k = true) : byP d t k < 0 := by
  refine Classical.byContradiction fun hc => ?_
  have hg : grtB d t k = true := by rw [← rgt_bit d t k 9 hk]; exact h3
  unfold grtB at hg
  have hb : byP d t k = idxF (hitB t k) 0 d.es ∧ 0 ≤ idxF (hitB t k) 0 d.es := by
    unfold byP at hc ⊢
    split at hc
    · exact absurd (by decide : (-1 : Int) < 0) hc
    · split at hc
      · exact absurd (by decide : (-2 : Int) < 0) hc
      · split at hc
        · exact absurd (by decide : (-3 : Int) < 0) hc
        · split at hc
          · exact absurd (by decide : (-4 : Int) < 0) hc
          · rename_i g1 g2 g3 g4
            rw [if_neg g1, if_neg g2, if_neg g3, if_neg g4]
            exact ⟨rfl, by omega⟩
  obtain ⟨hb1, hb2⟩ := hb
  rcases idxF_spec (hitB t k) d.es 0 with ⟨g1, g2⟩ | ⟨j, hj, g1, g2, g3⟩
  · rw [g1] at hb2; omega
  · rw [Nat.zero_add] at g1
    rw [hb1, g1] at hg
    have hj0 : decide ((j : Int) < 0) = false := by simp
    rw [hj0, Bool.false_or, Int.toNat_natCast, List.getD_eq_getElem?_getD, List.getElem?_eq_getElem hj, Option.getD_some, Bool.and_eq_true] at hg
    have hk0 : d.es[j].k = 0 := by simpa using hg.2
    have hle : j ≤ i := by
      refine Classical.byContradiction fun hlt => ?_
      have := g3 i (by omega)
      rw [h2] at this
      cases this
    have hm := ascR_all hr i j hle hi
    unfold rankA at hm
    rw [hn _ (List.getElem_mem hj), hn _ (List.getElem_mem hi), hk0, h1] at hm
    exact absurd hm (by decide)
/-- without an entry -/
def dropA (d : DscP) (i : Nat) : DscP := { d with es := d.es.take i ++ d.es.drop (i + 1) }
theorem dropA_err {d : DscP} {i : Nat} (h : dscE d = 0) (hi : i < d.es.length) : dscE (dropA d i) = 0 := by
  obtain ⟨h1, h2, l1, l2, h3, h4, h5⟩ := dscE_zero h
  have hm : ∀ a ∈ (dropA d i).es, a ∈ d.es := fun a ha => by
    rcases List.mem_append.1 ha with h | h
    · exact List.mem_of_mem_take h
    · exact List.mem_of_mem_drop h
  refine dscE_mk h1 h2 ?_ l2 (fun hh => ?_) (fun a ha => h4 a (hm a ha)) h5
  · unfold dropA
    simp only [List.length_append, List.length_take, List.length_drop]
    omega
  · have := h3 hh
    unfold dropA
    simp [this]
theorem idxF_append {α : Type} (g : α → Bool) : ∀ (l m : List α) (k : Nat), (∀ a ∈ l, g a = false) → idxF g k (l ++ m) = idxF g (k + l.length) m
  | [], m, k, _ => by simp
  | a :: l, m, k, h => by
    rw [List.cons_append, idxF, if_neg (by rw [h a (by simp)]; decide), idxF_append g l m (k + 1) (fun x hx => h x (List.mem_cons_of_mem _ hx)), List.length_cons]
    congr 1; omega
/-- what the first entry that hits grants -/
def fstK (g : AceP → Bool) (l : List AceP) : Bool := match l.find? g with | some a => a.k == 0 | none => false
theorem grtB_find (d : DscP) (t : TokP) (i : Nat) : grtB d t i = if prvB t.p i = true then true else if ((i == 6 || i == 7) && isT t d.o) = true then true else if d.he = false then true else fstK (hitB t i) d.es := by
  unfold grtB byP
  split
  · rfl
  · split
    · rfl
    · split
      · rfl
      · unfold fstK
        rcases idxF_spec (hitB t i) d.es 0 with ⟨g1, g2⟩ | ⟨j, hj, g1, g2, g3⟩
        · have hn : d.es.find? (hitB t i) = none := List.find?_eq_none.2 fun a ha => by rw [g2 a ha]; decide
          rw [g1, hn]; rfl
        · rw [Nat.zero_add] at g1
          have hf : d.es.find? (hitB t i) = some d.es[j] := by
            rw [List.find?_eq_some_iff_getElem]
            exact ⟨g2, j, hj, rfl, fun m hm => by rw [g3 m hm]; rfl⟩
          rw [g1, hf, if_neg (by omega)]
          have hj0 : decide ((j : Int) < 0) = false := by simp
          have hj1 : ((j : Int) != -4) = true := by rw [bne_iff_ne]; omega
          rw [hj0, hj1, Bool.true_and, Bool.false_or, Int.toNat_natCast, List.getD_eq_getElem?_getD, List.getElem?_eq_getElem hj]
          rfl
theorem fstK_drop {g : AceP → Bool} {l : List AceP} {i : Nat} (hi : i < l.length) (h1 : l[i].k = 1) (h : fstK g l = true) : fstK g (l.take i ++ l.drop (i + 1)) = true := by
  have e : l = l.take i ++ l[i] :: l.drop (i + 1) := by rw [← List.drop_eq_getElem_cons hi, List.take_append_drop]
  have h' := h
  rw [e] at h'
  unfold fstK at h' ⊢
  rw [List.find?_append, List.find?_cons] at h'
  rw [List.find?_append]
  cases hf : (l.take i).find? g with
  | some a => rw [hf] at h'; exact h'
  | none =>
    rw [hf] at h'
    cases hg : g l[i] with
    | true =>
      rw [hg] at h'
      simp only [Option.none_or] at h'
      have : (l[i].k == 0) = true := h'
      rw [h1] at this
      cases this
    | false =>
      rw [hg] at h'
      simpa using h'
theorem grt_drop {d : DscP} {t : TokP} {i k : Nat} (hi : i < d.es.length) (h1 : d.es[i].k = 1) (h : grtB d t k = true) : grtB (dropA d i) t k = true := by
  rw [grtB_find] at h ⊢
  show (if prvB t.p k = true then true else if ((k == 6 || k == 7) && isT t d.o) = true then true else if d.he = false then true else fstK (hitB t k) (d.es.take i ++ d.es.drop (i + 1))) = true
  split
  · rfl
  · split
    · rfl
    · split
      · rfl
      · rename_i g1 g2 g3
        rw [if_neg g1, if_neg g2, if_neg g3] at h
        exact fstK_drop hi h1 h
theorem bitI_nat (a i : Nat) : bitI (a : Int) i = a.testBit i := by
  unfold bitI
  rw [Nat.testBit_eq_decide_div_mod_eq]
  have e : (a : Int) / 2 ^ i % 2 = ((a / 2 ^ i % 2 : Nat) : Int) := by push_cast; rfl
  rw [e]
  by_cases h : a / 2 ^ i % 2 = 1
  · simp [h]
  · have : ¬ ((a / 2 ^ i % 2 : Nat) : Int) = 1 := by omega
    simp only [h, decide_false]
    simpa using this
theorem and_sub {x y : Int} (h0 : 0 ≤ x) (h1 : x < 512) (h2 : 0 ≤ y) (h3 : y < 512) (h : ∀ k, k < 9 → bitI y k = true → bitI x k = true) : bits .and .i64 x y = y := by
  obtain ⟨a, rfl⟩ := Int.eq_ofNat_of_zero_le h0
  obtain ⟨b, rfl⟩ := Int.eq_ofNat_of_zero_le h2
  have ha : a < 512 := by omega
  have hb : b < 512 := by omega
  have hab : a &&& b = b := by
    apply Nat.eq_of_testBit_eq
    intro i
    rw [Nat.testBit_and]
    by_cases hi : i < 9
    · have := h i hi
      rw [bitI_nat, bitI_nat] at this
      cases hbi : b.testBit i
      · simp
      · rw [this hbi]; rfl
    · have : b.testBit i = false := Nat.testBit_lt_two_pow (Nat.lt_of_lt_of_le hb (by
        calc 512 = 2 ^ 9 := by decide
          _ ≤ 2 ^ i := Nat.pow_le_pow_right (by decide) (by omega)))
      rw [this, Bool.and_false]
  unfold bits
  simp only [BitVec.ofInt_natCast]
  have : (BitVec.ofNat 64 a &&& BitVec.ofNat 64 b).toNat = a &&& b := by
    rw [BitVec.toNat_and, BitVec.toNat_ofNat, BitVec.toNat_ofNat, Nat.mod_eq_of_lt (by omega), Nat.mod_eq_of_lt (by omega)]
  show IntKind.i64.wrap ((BitVec.ofNat 64 a &&& BitVec.ofNat 64 b).toNat : Int) = _
  rw [this, hab]
  exact wraps62 _ (Int.natCast_nonneg _) (by exact_mod_cast (show b < 2 ^ 62 by omega))
theorem rgt_drop {d : DscP} {t : TokP} {i : Nat} (hi : i < d.es.length) (h1 : d.es[i].k = 1) : bits .and .i64 (rgtP (dropA d i) t) (rgtP d t) = rgtP d t := by
  obtain ⟨b0, b1⟩ := rgtN_bd (dropA d i) t 9
  obtain ⟨b2, b3⟩ := rgtN_bd d t 9
  refine and_sub b0 (by unfold rgtP; omega) b2 (by unfold rgtP; omega) fun k hk hb => ?_
  have e1 := rgt_bit d t k 9 hk
  have e2 := rgt_bit (dropA d i) t k 9 hk
  unfold rgtP at hb ⊢
  rw [e2]
  rw [e1] at hb
  exact grt_drop hi h1 hb
end Go.Proofs.YtanicpgmbhfipaaDoor
