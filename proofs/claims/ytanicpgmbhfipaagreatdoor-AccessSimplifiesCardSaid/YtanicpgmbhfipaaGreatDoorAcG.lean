/-
  Chapter 17, plain: a descriptor simplified; it grants every token the same, and simplified again it does not change.
  Chapter 16, plain: entries in canonical order: an insertion sort gives the entries rank by rank.
  Chapter 17: the reference's subsets.
  Chapter 17: the reference's tokens; TokensOf.
  Chapter 17: the reference's Difference and More.
  Chapter 17: CheckDecided.
  Chapter 17: copies of descriptors, owned; those in drawn regions with stores.
-/
import Derived.Test.YtanicpgmbhfipaaGreatDoorKitE
import Derived.Laws.OwnMore
import Derived.Test.YtanicpgmbhfipaaGreatDoorKitC
namespace Go.Proofs.YtanicpgmbhfipaaGreatDoor
set_option linter.unusedVariables false
set_option linter.unusedSimpArgs false
open Go.RowKit
theorem an_bit {m r : Int} (h0 : 0 ≤ m) (h1 : m < 2 ^ 62) (h2 : 0 ≤ r) (h3 : r < 2 ^ 62) (i : Nat) (hi : i < 62) : bitI (bits .andNot .i64 m r) i = (bitI m i && !bitI r i) := by
 obtain ⟨a, rfl⟩ := Int.eq_ofNat_of_zero_le h0
 obtain ⟨b, rfl⟩ := Int.eq_ofNat_of_zero_le h2
 have ha : a < 2 ^ 62 := by exact_mod_cast h1
 have hb : b < 2 ^ 62 := by exact_mod_cast h3
 have lb : (BitVec.ofNat 64 a &&& ~~~ BitVec.ofNat 64 b).toNat ≤ a := by
  rw [BitVec.toNat_and, BitVec.toNat_ofNat, Nat.mod_eq_of_lt (by omega)]; exact Nat.and_le_left
 have e2 : bits .andNot .i64 (a : Int) (b : Int) = ((BitVec.ofNat 64 a &&& ~~~ BitVec.ofNat 64 b).toNat : Int) := by
  simp only [bits, BitVec.ofInt_natCast]
  exact wraps62 _ (Int.natCast_nonneg _) (by exact_mod_cast (Nat.lt_of_le_of_lt lb ha))
 show bitI (bits .andNot .i64 (a : Int) (b : Int)) i = _
 rw [e2, bitI_nat]
 show _ = (bitI ((a : Nat) : Int) i && !bitI ((b : Nat) : Int) i)
 rw [bitI_nat, bitI_nat, BitVec.testBit_toNat]
 simp [show i < 64 by omega]
 rw [← BitVec.getLsbD_eq_getElem, ← BitVec.getLsbD_eq_getElem, BitVec.getLsbD_ofNat, BitVec.getLsbD_ofNat]
 simp [show i < 64 by omega]
theorem or_bits {m r : Int} (h0 : 0 ≤ m) (h1 : m ≤ 511) (h2 : 0 ≤ r) (h3 : r ≤ 511) : (0 ≤ bits .or .i64 m r ∧ bits .or .i64 m r ≤ 511) ∧ ∀ i, bitI (bits .or .i64 m r) i = (bitI m i || bitI r i) := by
 obtain ⟨a, rfl⟩ := Int.eq_ofNat_of_zero_le h0
 obtain ⟨b, rfl⟩ := Int.eq_ofNat_of_zero_le h2
 have ha : a ≤ 511 := by omega
 have hb : b ≤ 511 := by omega
 have e := (bits_nat .i64 62 (by decide) wraps62 a b (by omega) (by omega)).2
 have hx : a ||| b < 2 ^ 9 := Nat.or_lt_two_pow (by omega) (by omega)
 rw [e]
 refine ⟨⟨by omega, by omega⟩, fun i => ?_⟩
 show bitI ((a ||| b : Nat) : Int) i = (bitI ((a : Nat) : Int) i || bitI ((b : Nat) : Int) i)
 rw [bitI_nat, bitI_nat, bitI_nat, Nat.testBit_or]
theorem bit_ext {m r : Int} (h0 : 0 ≤ m) (h1 : m ≤ 511) (h2 : 0 ≤ r) (h3 : r ≤ 511) (h : ∀ i, i < 9 → bitI m i = bitI r i) : m = r := by
 obtain ⟨a, rfl⟩ := Int.eq_ofNat_of_zero_le h0
 obtain ⟨b, rfl⟩ := Int.eq_ofNat_of_zero_le h2
 have : a = b := by
  apply Nat.eq_of_testBit_eq
  intro i
  by_cases hi : i < 9
  · have := h i hi
    rw [bitI_nat, bitI_nat] at this
    exact this
  · rw [Nat.testBit_lt_two_pow (Nat.lt_of_lt_of_le (show a < 2 ^ 9 by omega) (Nat.pow_le_pow_right (by decide) (by omega))), Nat.testBit_lt_two_pow (Nat.lt_of_lt_of_le (show b < 2 ^ 9 by omega) (Nat.pow_le_pow_right (by decide) (by omega)))]
 rw [this]
def offM (m r : Int) : Int := m - bits .and .i64 m r
theorem offM_eq {m r : Int} (h0 : 0 ≤ m) (h1 : m ≤ 511) (h2 : 0 ≤ r) (h3 : r ≤ 511) : offM m r = bits .andNot .i64 m r ∧ 0 ≤ offM m r ∧ offM m r ≤ m ∧ ∀ i, i < 9 → bitI (offM m r) i = (bitI m i && !bitI r i) := by
 obtain ⟨e1, e2, e3⟩ := andNot_bits m r h0 (by omega) h2 (by omega)
 have hb := an_bit h0 (by omega) h2 (show r < 2 ^ 62 by omega)
 unfold offM
 rw [← e1]
 refine ⟨rfl, by omega, by omega, fun i hi => hb i (by omega)⟩
def inhB (a : AceP) : Bool := bitI a.f 0 || bitI a.f 1
def redM (w : Int) : Int → List AceP → Int
 | m, [] => m
 | m, b :: l => redM w (if (cntB b && (b.w == w || b.w == 1)) = true then offM m b.m else m) l
def sim1 (out : List AceP) (a : AceP) : AceP := if (cntB a && !inhB a) = true then { a with m := redM a.w a.m out } else a
def psh (out : List AceP) (x : AceP) : List AceP := if x.m = 0 then out else out ++ [x]
def simG : List AceP → List AceP → List AceP
 | out, [] => out
 | out, a :: l => simG (psh out (sim1 out a)) l
def simL (l : List AceP) : List AceP := simG [] l
def mOk (a : AceP) : Prop := 0 ≤ a.m ∧ a.m ≤ 511
def covB (out : List AceP) (w : Int) (i : Nat) : Bool := out.any fun b => cntB b && b.w == w && bitI b.m i
theorem redM_spec (w : Int) : ∀ (l : List AceP) (m : Int), 0 ≤ m → m ≤ 511 → (∀ b ∈ l, mOk b) → 0 ≤ redM w m l ∧ redM w m l ≤ m ∧ ∀ i, i < 9 → bitI (redM w m l) i = (bitI m i && !(covB l w i || covB l 1 i))
 | [], m, h0, h1, _ => ⟨h0, Int.le_refl _, fun i _ => by simp [redM, covB]⟩
 | b :: l, m, h0, h1, hl => by
  have hb := hl b (List.mem_cons_self ..)
  obtain ⟨_, o1, o2, o3⟩ := offM_eq h0 h1 hb.1 hb.2
  unfold redM
  by_cases hc : (cntB b && (b.w == w || b.w == 1)) = true
  · rw [if_pos hc]
    obtain ⟨r0, r1, r2⟩ := redM_spec w l (offM m b.m) o1 (by omega) (fun x hx => hl x (List.mem_cons_of_mem _ hx))
    refine ⟨r0, by omega, fun i hi => ?_⟩
    rw [r2 i hi, o3 i hi]
    unfold covB
    rw [List.any_cons, List.any_cons]
    rw [Bool.and_eq_true, Bool.or_eq_true] at hc
    obtain ⟨c1, c2⟩ := hc
    rw [c1]
    generalize (l.any fun b => cntB b && b.w == w && bitI b.m i) = A
    generalize (l.any fun b => cntB b && b.w == 1 && bitI b.m i) = B
    rcases c2 with c2 | c2
    · rw [c2]
      generalize (b.w == 1) = C
      cases bitI m i <;> cases bitI b.m i <;> cases A <;> cases B <;> cases C <;> rfl
    · rw [c2]
      generalize (b.w == w) = C
      cases bitI m i <;> cases bitI b.m i <;> cases A <;> cases B <;> cases C <;> rfl
  · rw [if_neg hc]
    obtain ⟨r0, r1, r2⟩ := redM_spec w l m h0 h1 (fun x hx => hl x (List.mem_cons_of_mem _ hx))
    refine ⟨r0, r1, fun i hi => ?_⟩
    rw [r2 i hi]
    unfold covB
    rw [List.any_cons, List.any_cons]
    have hc' : (cntB b && (b.w == w || b.w == 1)) = false := by simpa using hc
    have e1 : (cntB b && b.w == w && bitI b.m i) = false := by
     revert hc'
     cases cntB b <;> cases (b.w == w) <;> cases (b.w == 1) <;> cases bitI b.m i <;> simp
    have e2 : (cntB b && b.w == 1 && bitI b.m i) = false := by
     revert hc'
     cases cntB b <;> cases (b.w == w) <;> cases (b.w == 1) <;> cases bitI b.m i <;> simp
    rw [e1, e2, Bool.false_or, Bool.false_or]
theorem sim1_keep (out : List AceP) (a : AceP) : (sim1 out a).k = a.k ∧ (sim1 out a).f = a.f ∧ (sim1 out a).w = a.w := by
 unfold sim1; split <;> exact ⟨rfl, rfl, rfl⟩
theorem sim1_m {out : List AceP} {a : AceP} (ha : mOk a) (ho : ∀ b ∈ out, mOk b) : 0 ≤ (sim1 out a).m ∧ (sim1 out a).m ≤ a.m := by
 unfold sim1
 split
 · obtain ⟨h1, h2, _⟩ := redM_spec a.w out a.m ha.1 ha.2 ho
   exact ⟨h1, h2⟩
 · exact ⟨ha.1, Int.le_refl _⟩
theorem psh_ok {out : List AceP} {x : AceP} (ho : ∀ b ∈ out, mOk b) (hx : mOk x) : ∀ b ∈ psh out x, mOk b := by
 unfold psh
 split
 · exact ho
 · intro b hb
   rcases List.mem_append.1 hb with hb | hb
   · exact ho b hb
   · rw [List.mem_singleton.1 hb]; exact hx
theorem cnt_keep (out : List AceP) (a : AceP) : cntB (sim1 out a) = cntB a := by unfold cntB; rw [(sim1_keep out a).2.1]
theorem inh_keep (out : List AceP) (a : AceP) : inhB (sim1 out a) = inhB a := by unfold inhB; rw [(sim1_keep out a).2.1]
theorem redM_twice (w : Int) {out : List AceP} {m : Int} (h0 : 0 ≤ m) (h1 : m ≤ 511) (ho : ∀ b ∈ out, mOk b) : redM w (redM w m out) out = redM w m out := by
 obtain ⟨a0, a1, a2⟩ := redM_spec w out m h0 h1 ho
 obtain ⟨b0, b1, b2⟩ := redM_spec w out (redM w m out) a0 (by omega) ho
 apply bit_ext b0 (by omega) a0 (by omega)
 intro i hi
 rw [b2 i hi, a2 i hi]
 cases bitI m i <;> cases (covB out w i || covB out 1 i) <;> rfl
theorem sim1_pos {out : List AceP} {a : AceP} (h : (cntB a && !inhB a) = true) : sim1 out a = { a with m := redM a.w a.m out } := by unfold sim1; rw [if_pos h]
theorem sim1_neg {out : List AceP} {a : AceP} (h : ¬ (cntB a && !inhB a) = true) : sim1 out a = a := by unfold sim1; rw [if_neg h]
theorem sim1_twice {out : List AceP} {a : AceP} (ha : mOk a) (ho : ∀ b ∈ out, mOk b) : sim1 out (sim1 out a) = sim1 out a := by
 by_cases h : (cntB a && !inhB a) = true
 · have h' : (cntB (sim1 out a) && !inhB (sim1 out a)) = true := by rw [cnt_keep, inh_keep]; exact h
   rw [sim1_pos h', sim1_pos h]
   show (AceP.mk a.k a.f (redM a.w (redM a.w a.m out) out) a.w) = _
   rw [redM_twice _ ha.1 ha.2 ho]
 · rw [sim1_neg h, sim1_neg h]
def fixd (o : List AceP) : Prop := ∀ j (h : j < o.length), sim1 (o.take j) o[j] = o[j] ∧ o[j].m ≠ 0
theorem fixd_psh {out : List AceP} {a : AceP} (ha : mOk a) (ho : ∀ b ∈ out, mOk b) (hf : fixd out) : fixd (psh out (sim1 out a)) := by
 unfold psh
 split
 · exact hf
 · rename_i hm
   intro j hj
   by_cases h : j < out.length
   · obtain ⟨h1, h2⟩ := hf j h
     rw [List.take_append_of_le_length (by omega), List.getElem_append_left h]
     exact ⟨h1, h2⟩
   · have : j = out.length := by simp at hj; omega
     subst this
     have e : (out ++ [sim1 out a])[out.length]'hj = sim1 out a := by simp
     rw [e, List.take_left]
     exact ⟨sim1_twice ha ho, hm⟩
theorem fixd_simG : ∀ (l out : List AceP), (∀ a ∈ l, mOk a) → (∀ b ∈ out, mOk b) → fixd out → fixd (simG out l) ∧ ∀ b ∈ simG out l, mOk b
 | [], out, _, ho, hf => ⟨hf, ho⟩
 | a :: l, out, hl, ho, hf => by
  have ha := hl a (List.mem_cons_self ..)
  have hs := sim1_m ha ho
  unfold simG
  exact fixd_simG l _ (fun x hx => hl x (List.mem_cons_of_mem _ hx)) (psh_ok ho ⟨hs.1, by have := ha.2; omega⟩) (fixd_psh ha ho hf)
theorem simG_fixd : ∀ (n : Nat) (o : List AceP) (j : Nat), o.length - j = n → j ≤ o.length → fixd o → simG (o.take j) (o.drop j) = o
 | 0, o, j, hn, hj, _ => by
  have : j = o.length := by omega
  subst this
  rw [List.drop_length, List.take_length]; rfl
 | n + 1, o, j, hn, hj, hf => by
  have h : j < o.length := by omega
  obtain ⟨h1, h2⟩ := hf j h
  rw [List.drop_eq_getElem_cons h]
  unfold simG
  rw [h1]
  unfold psh
  rw [if_neg h2, ← List.take_succ_eq_append_getElem h]
  exact simG_fixd n o (j + 1) (by omega) (by omega) hf
theorem simL_twice {l : List AceP} (hl : ∀ a ∈ l, mOk a) : simL (simL l) = simL l := by
 have hf := (fixd_simG l [] hl (fun b hb => by cases hb) (fun j h => by simp at h)).1
 exact simG_fixd _ (simL l) 0 rfl (Nat.zero_le _) hf
def fstA (t : TokP) (i : Nat) (l : List AceP) : Bool := match l.find? (hitB t i) with | some a => a.k == 0 | none => false
theorem fstA_app (t : TokP) (i : Nat) (x y : List AceP) : fstA t i (x ++ y) = if (x.any (hitB t i)) = true then fstA t i x else fstA t i y := by
 unfold fstA
 rw [List.find?_append]
 cases h : x.find? (hitB t i) with
 | none =>
  have : x.any (hitB t i) = false := by
   rw [List.any_eq_false]
   exact List.find?_eq_none.1 h
  rw [this]; rfl
 | some a =>
  have : x.any (hitB t i) = true := List.any_eq_true.2 ⟨a, List.mem_of_find?_eq_some h, List.find?_some h⟩
  rw [this]; rfl
theorem hit_sim1 {t : TokP} {i : Nat} (hi : i < 9) {out : List AceP} {a : AceP} (ha : mOk a) (ho : ∀ b ∈ out, mOk b) (hn : out.any (hitB t i) = false) : hitB t i (sim1 out a) = hitB t i a := by
 unfold hitB
 rw [cnt_keep, (sim1_keep out a).2.2]
 by_cases hc : cntB a = true
 case neg =>
  have : cntB a = false := by simpa using hc
  rw [this]; rfl
 by_cases ht : isT t a.w = true
 case neg =>
  have : isT t a.w = false := by simpa using ht
  rw [this, Bool.and_false]; rfl
 congr 1
 unfold sim1
 split
 · show bitI (redM a.w a.m out) i = bitI a.m i
   rw [(redM_spec a.w out a.m ha.1 ha.2 ho).2.2 i hi]
   have hw : ∀ w, isT t w = true → covB out w i = false := by
    intro w hw
    unfold covB
    rw [List.any_eq_false] at hn ⊢
    intro b hb hx
    rw [Bool.and_eq_true, Bool.and_eq_true] at hx
    have e : b.w = w := by simpa using hx.1.2
    exact hn b hb (by unfold hitB; rw [hx.1.1, e, hw, hx.2]; rfl)
   rw [hw _ ht, hw 1 (by unfold isT; rfl)]
   simp
 · rfl
theorem fst_simG {t : TokP} {i : Nat} (hi : i < 9) : ∀ (l out : List AceP), (∀ a ∈ l, mOk a) → (∀ b ∈ out, mOk b) → fstA t i (simG out l) = fstA t i (out ++ l)
 | [], out, _, _ => by rw [List.append_nil]; rfl
 | a :: l, out, hl, ho => by
  have ha := hl a (List.mem_cons_self ..)
  have hs := sim1_m ha ho
  unfold simG
  rw [fst_simG hi l _ (fun x hx => hl x (List.mem_cons_of_mem _ hx)) (psh_ok ho ⟨hs.1, by have := ha.2; omega⟩)]
  have key : fstA t i (psh out (sim1 out a) ++ l) = fstA t i (out ++ ([sim1 out a] ++ l)) := by
   unfold psh
   split
   · rename_i hm
     rw [fstA_app, fstA_app t i out, fstA_app t i [_]]
     have : [sim1 out a].any (hitB t i) = false := by
      have hz : bitI 0 i = false := by unfold bitI; simp
      simp only [List.any_cons, List.any_nil, Bool.or_false]
      unfold hitB; rw [hm, hz, Bool.and_false]
     rw [this]; rfl
   · rw [List.append_assoc]
  rw [key, fstA_app, fstA_app t i out (a :: l)]
  cases hn : out.any (hitB t i) with
  | true => rfl
  | false =>
   rw [if_neg (by decide), if_neg (by decide), fstA_app, show a :: l = [a] ++ l from rfl, fstA_app t i [a]]
   have e : [sim1 out a].any (hitB t i) = [a].any (hitB t i) := by
    simp only [List.any_cons, List.any_nil, Bool.or_false]
    exact hit_sim1 hi ha ho hn
   rw [e]
   cases hh : [a].any (hitB t i) with
   | false => rfl
   | true =>
    rw [if_pos rfl, if_pos rfl]
    have h1 : hitB t i a = true := by simpa using hh
    have h2 : hitB t i (sim1 out a) = true := by rw [hit_sim1 hi ha ho hn]; exact h1
    unfold fstA
    rw [List.find?_cons, List.find?_cons, h1, h2]
    show ((sim1 out a).k == 0) = (a.k == 0)
    rw [(sim1_keep out a).1]
theorem grt_fst (d : DscP) (t : TokP) (i : Nat) : grtB d t i = (prvB t.p i || ((i == 6 || i == 7) && isT t d.o) || !d.he || fstA t i d.es) := by
 unfold grtB byP
 by_cases h1 : prvB t.p i = true
 · simp only [if_pos h1]; rw [h1]; rfl
 simp only [if_neg h1]
 have h1' : prvB t.p i = false := by simpa using h1
 rw [h1', Bool.false_or]
 by_cases h2 : ((i == 6 || i == 7) && isT t d.o) = true
 · simp only [if_pos h2]; rw [h2]; rfl
 simp only [if_neg h2]
 have h2' : ((i == 6 || i == 7) && isT t d.o) = false := by simpa using h2
 rw [h2', Bool.false_or]
 by_cases h3 : d.he = false
 · simp only [if_pos h3]; rw [h3]; rfl
 simp only [if_neg h3]
 have h3' : d.he = true := by simpa using h3
 rw [h3']
 show _ = fstA t i d.es
 unfold fstA
 rcases idxF_spec (hitB t i) d.es 0 with ⟨e, hn⟩ | ⟨j, hj, e, hg, hm⟩
 · rw [if_pos (by rw [e]; decide)]
   have : d.es.find? (hitB t i) = none := List.find?_eq_none.2 (fun a ha => by rw [hn a ha]; decide)
   rw [this]; rfl
 · rw [if_neg (by rw [e]; omega), e]
   have : d.es.find? (hitB t i) = some d.es[j] := by
    rw [List.find?_eq_some_iff_getElem]
    exact ⟨hg, j, hj, rfl, fun m hmj => by simpa using hm m hmj⟩
   rw [this]
   have e1 : (((0 + j : Nat) : Int) != -4) = true := by simp
   have e2 : decide (((0 + j : Nat) : Int) < 0) = false := decide_eq_false (by omega)
   rw [e1, e2]
   have e3 : ((0 + j : Nat) : Int).toNat = j := by omega
   rw [e3, List.getD_eq_getElem?_getD, List.getElem?_eq_getElem hj]
   rfl
theorem rgt_same {d x : DscP} {t : TokP} (h : ∀ i, i < 9 → grtB d t i = grtB x t i) : rgtP d t = rgtP x t := by
 have : ∀ n, n ≤ 9 → rgtN d t n = rgtN x t n := by
  intro n
  induction n with
  | zero => intro _; rfl
  | succ n ih => intro hn; unfold rgtN; rw [ih (by omega), h n (by omega)]
 exact this 9 (Nat.le_refl _)
def simD (d : DscP) : DscP := { d with es := simL d.es }
theorem rgt_sim {d : DscP} (h : ∀ a ∈ d.es, mOk a) (t : TokP) : rgtP (simD d) t = rgtP d t := by
 apply rgt_same
 intro i hi
 rw [grt_fst, grt_fst]
 show (_ || fstA t i (simL d.es)) = _
 unfold simL
 rw [fst_simG hi d.es [] h (fun b hb => by cases hb)]
 rfl
def dInv (out : List AceP) (D : Int → Int) : Prop := ∀ w, 0 ≤ D w ∧ D w ≤ 511 ∧ ∀ i, i < 9 → bitI (D w) i = covB out w i
theorem dInv_nil : dInv [] (fun _ => 0) := fun w => ⟨Int.le_refl 0, by show (0 : Int) ≤ 511; decide, fun i _ => by unfold bitI covB; simp⟩
theorem red_D {out : List AceP} {D : Int → Int} (h : dInv out D) (w : Int) {m : Int} (h0 : 0 ≤ m) (h1 : m ≤ 511) (ho : ∀ b ∈ out, mOk b) : bits .andNot .i64 m (bits .or .i64 (D w) (D 1)) = redM w m out := by
 obtain ⟨a0, a1, a2⟩ := h w
 obtain ⟨b0, b1, b2⟩ := h 1
 obtain ⟨⟨c0, c1⟩, c2⟩ := or_bits a0 a1 b0 b1
 obtain ⟨e0, e1, e2, e3⟩ := offM_eq h0 h1 c0 c1
 obtain ⟨r0, r1, r2⟩ := redM_spec w out m h0 h1 ho
 rw [← e0]
 apply bit_ext e1 (by omega) r0 (by omega)
 intro i hi
 rw [e3 i hi, c2, a2 i hi, b2 i hi, r2 i hi]
theorem covB_psh {out : List AceP} {x : AceP} (w : Int) (i : Nat) : covB (psh out x) w i = (covB out w i || (cntB x && x.w == w && bitI x.m i)) := by
 unfold psh
 split
 · rename_i hm
   have : bitI 0 i = false := by unfold bitI; simp
   rw [hm, this, Bool.and_false, Bool.or_false]
 · unfold covB
   rw [List.any_append]
   simp
theorem dInv_step {out : List AceP} {D : Int → Int} {x : AceP} (h : dInv out D) (hc : cntB x = true) (hx : mOk x) : dInv (psh out x) (fun w => if w = x.w then bits .or .i64 (D x.w) x.m else D w) := by
 intro w
 by_cases e : w = x.w
 · subst e
   obtain ⟨a0, a1, a2⟩ := h x.w
   obtain ⟨⟨c0, c1⟩, c2⟩ := or_bits a0 a1 hx.1 hx.2
   simp only [if_pos]
   refine ⟨c0, c1, fun i hi => ?_⟩
   rw [c2, a2 i hi, covB_psh, hc]
   simp
 · obtain ⟨a0, a1, a2⟩ := h w
   simp only [if_neg e]
   refine ⟨a0, a1, fun i hi => ?_⟩
   rw [a2 i hi, covB_psh]
   have : (x.w == w) = false := by simpa using fun h => e h.symm
   rw [this, Bool.and_false, Bool.false_and, Bool.or_false]
theorem dInv_skip {out : List AceP} {D : Int → Int} {x : AceP} (h : dInv out D) (hc : cntB x = false) : dInv (psh out x) D := by
 intro w
 obtain ⟨a0, a1, a2⟩ := h w
 refine ⟨a0, a1, fun i hi => ?_⟩
 rw [a2 i hi, covB_psh, hc]
 simp
theorem inh_bits (f : Int) (h0 : 0 ≤ f) (h1 : f ≤ 31) : (bits .and .i64 f 3 == 0) = !(bitI f 0 || bitI f 1) := by
 have all : ∀ f : Fin 32, (bits .and .i64 (f.val : Int) 3 == 0) = !(bitI (f.val : Int) 0 || bitI (f.val : Int) 1) := by decide +kernel
 obtain ⟨n, rfl⟩ := Int.eq_ofNat_of_zero_le h0
 exact all ⟨n, by omega⟩
def keyE (b a : AceP) : Bool := b.k == a.k && b.f == a.f && b.w == a.w
def mrg1 : List AceP → AceP → List AceP
 | [], a => [a]
 | b :: l, a => if keyE b a = true then { b with m := bits .or .i64 b.m a.m } :: l else b :: mrg1 l a
def mrgG : List AceP → List AceP → List AceP
 | out, [] => out
 | out, a :: l => mrgG (mrg1 out a) l
def mrgL (l : List AceP) : List AceP := mrgG [] l
theorem mrg1_none : ∀ (out : List AceP) (a : AceP), (∀ b ∈ out, keyE b a = false) → mrg1 out a = out ++ [a]
 | [], a, _ => rfl
 | b :: l, a, h => by
  unfold mrg1
  rw [if_neg (by rw [h b (List.mem_cons_self ..)]; decide), mrg1_none l a (fun x hx => h x (List.mem_cons_of_mem _ hx))]; rfl
theorem mrg1_at : ∀ (out : List AceP) (a : AceP) (i : Nat) (hi : i < out.length), keyE out[i] a = true → (∀ j (hj : j < i), keyE (out[j]'(by omega)) a = false) → mrg1 out a = out.set i { out[i] with m := bits .or .i64 out[i].m a.m }
 | b :: l, a, 0, _, h, _ => by
  unfold mrg1
  rw [if_pos (show keyE b a = true from h)]; rfl
 | b :: l, a, i + 1, hi, h, hn => by
  have h0 := hn 0 (by omega)
  unfold mrg1
  rw [if_neg (by rw [show keyE b a = false from h0]; decide), mrg1_at l a i (by simpa using hi) h (fun j hj => hn (j + 1) (by omega))]; rfl
theorem mrg1_mem {P : AceP → Prop} : ∀ (out : List AceP) (a : AceP), (∀ b ∈ out, P b) → P a → (∀ b ∈ out, keyE b a = true → P { b with m := bits .or .i64 b.m a.m }) → ∀ b ∈ mrg1 out a, P b
 | [], a, _, ha, _ => by intro b hb; rw [List.mem_singleton.1 hb]; exact ha
 | c :: l, a, ho, ha, hm => by
  unfold mrg1
  split
  · rename_i hk
    intro b hb
    rcases List.mem_cons.1 hb with rfl | hb
    · exact hm c (List.mem_cons_self ..) hk
    · exact ho b (List.mem_cons_of_mem _ hb)
  · intro b hb
    rcases List.mem_cons.1 hb with rfl | hb
    · exact ho _ (List.mem_cons_self ..)
    · exact mrg1_mem l a (fun x hx => ho x (List.mem_cons_of_mem _ hx)) ha (fun x hx => hm x (List.mem_cons_of_mem _ hx)) b hb
theorem mrg1_len : ∀ (out : List AceP) (a : AceP), (mrg1 out a).length ≤ out.length + 1
 | [], a => by simp [mrg1]
 | c :: l, a => by
  unfold mrg1
  have := mrg1_len l a
  split
  · simp
  · simp; omega
theorem mrg1_srt : ∀ (out : List AceP) (a : AceP), out.Pairwise (fun x y => rankA x ≤ rankA y) → (∀ b ∈ out, rankA b ≤ rankA a) → (mrg1 out a).Pairwise (fun x y => rankA x ≤ rankA y)
 | [], a, _, _ => by simp [mrg1]
 | c :: l, a, hs, ha => by
  obtain ⟨h1, h2⟩ := List.pairwise_cons.1 hs
  unfold mrg1
  split
  · exact List.pairwise_cons.2 ⟨h1, h2⟩
  · refine List.pairwise_cons.2 ⟨?_, mrg1_srt l a h2 (fun b hb => ha b (List.mem_cons_of_mem _ hb))⟩
    exact mrg1_mem (P := fun b => rankA c ≤ rankA b) l a h1 (ha c (List.mem_cons_self ..)) (fun b hb _ => h1 b hb)
def hitR (t : TokP) (i : Nat) (r : Int) (a : AceP) : Bool := rankA a == r && hitB t i a
theorem mrg1_any (t : TokP) (i : Nat) (r : Int) : ∀ (out : List AceP) (a : AceP), (∀ b ∈ out, mOk b) → mOk a → (mrg1 out a).any (hitR t i r) = (out.any (hitR t i r) || hitR t i r a)
 | [], a, _, _ => by simp [mrg1]
 | c :: l, a, ho, ha => by
  have hc := ho c (List.mem_cons_self ..)
  unfold mrg1
  split
  · rename_i hk
    unfold keyE at hk
    rw [Bool.and_eq_true, Bool.and_eq_true] at hk
    obtain ⟨⟨k1, k2⟩, k3⟩ := hk
    have k1 : c.k = a.k := by simpa using k1
    have k2 : c.f = a.f := by simpa using k2
    have k3 : c.w = a.w := by simpa using k3
    rw [List.any_cons, List.any_cons]
    have e : hitR t i r { c with m := bits .or .i64 c.m a.m } = (hitR t i r c || hitR t i r a) := by
     have hr : rankA a = rankA c := by unfold rankA; rw [k1, k2]
     have hn : cntB a = cntB c := by unfold cntB; rw [k2]
     unfold hitR hitB
     show (rankA c == r && (cntB c && isT t c.w && bitI (bits .or .i64 c.m a.m) i)) = _
     rw [(or_bits hc.1 hc.2 ha.1 ha.2).2, hr, hn, k3]
     cases (rankA c == r) <;> cases cntB c <;> cases isT t a.w <;> cases bitI c.m i <;> cases bitI a.m i <;> rfl
    rw [e]
    cases hitR t i r c <;> cases hitR t i r a <;> cases l.any (hitR t i r) <;> rfl
  · rw [List.any_cons, List.any_cons, mrg1_any t i r l a (fun x hx => ho x (List.mem_cons_of_mem _ hx)) ha, Bool.or_assoc]
theorem mrgG_spec : ∀ (l out : List AceP), (∀ a ∈ l, aceE a = 0 ∧ a.k ≠ 2) → (∀ b ∈ out, aceE b = 0 ∧ b.k ≠ 2) → l.Pairwise (fun x y => rankA x ≤ rankA y) → out.Pairwise (fun x y => rankA x ≤ rankA y) → (∀ b ∈ out, ∀ a ∈ l, rankA b ≤ rankA a) →
 (mrgG out l).Pairwise (fun x y => rankA x ≤ rankA y) ∧ (∀ b ∈ mrgG out l, aceE b = 0 ∧ b.k ≠ 2) ∧ (mrgG out l).length ≤ out.length + l.length ∧ ∀ t i r, (mrgG out l).any (hitR t i r) = (out.any (hitR t i r) || l.any (hitR t i r))
 | [], out, _, ho, _, hs, _ => ⟨hs, ho, Nat.le_refl _, fun t i r => by simp [mrgG]⟩
 | a :: l, out, hl, ho, hsl, hs, hr => by
  obtain ⟨h1, h2⟩ := List.pairwise_cons.1 hsl
  have ha := hl a (List.mem_cons_self ..)
  have ok : ∀ b, aceE b = 0 → mOk b := fun b hb => by obtain ⟨⟨_, _, x, y⟩, _⟩ := aceO_of hb; exact ⟨x, y⟩
  have hor : ∀ b, aceE b = 0 → ∀ m, 1 ≤ m → m ≤ 511 → aceE { b with m := m } = 0 := by
   intro b hb m h1 h2
   unfold aceE at hb ⊢
   by_cases hk : inB b.k 0 2 = true
   · rw [if_pos hk] at hb ⊢
     by_cases hR : aceR b = true
     · have : aceR { b with m := m } = true := by
        unfold aceR at hR ⊢
        rw [Bool.and_eq_true, Bool.and_eq_true] at hR ⊢
        exact ⟨⟨hR.1.1, by show inB m 1 511 = true; rw [inB_true]; exact ⟨h1, h2⟩⟩, hR.2⟩
       rw [if_pos this]
     · rw [if_neg hR] at hb; exact absurd hb (by decide)
   · rw [if_neg hk] at hb; exact absurd hb (by decide)
  have hmem := mrg1_mem (P := fun b => aceE b = 0 ∧ b.k ≠ 2) out a ho ha (fun b hb hk => by
   have h := ho b hb
   have hm := ok b h.1
   have hm' := ok a ha.1
   obtain ⟨_, _, _, h1'⟩ := aceO_of h.1
   have hob := or_bits hm.1 hm.2 hm'.1 hm'.2
   refine ⟨hor b h.1 _ ?_ hob.1.2, h.2⟩
   by_cases hz : bits .or .i64 b.m a.m = 0
   · exfalso
     have : b.m = 0 := bit_ext hm.1 hm.2 (by decide) (by decide) (fun i _ => by
      have h9 := hob.2 i
      have hz0 : bitI 0 i = false := by unfold bitI; simp
      rw [hz, hz0] at h9
      rw [hz0]
      cases hb9 : bitI b.m i with
      | false => rfl
      | true => rw [hb9] at h9; cases h9)
     omega
   · have := hob.1.1; omega)
  obtain ⟨g1, g2, g3, g4⟩ := mrgG_spec l (mrg1 out a) (fun x hx => hl x (List.mem_cons_of_mem _ hx)) hmem h2
   (mrg1_srt out a hs (fun b hb => hr b hb a (List.mem_cons_self ..)))
   (fun b hb x hx => mrg1_mem (P := fun b => rankA b ≤ rankA x) out a (fun b hb => hr b hb x (List.mem_cons_of_mem _ hx)) (h1 x hx) (fun b hb _ => hr b hb x (List.mem_cons_of_mem _ hx)) b hb)
  unfold mrgG
  refine ⟨g1, g2, ?_, fun t i r => ?_⟩
  · have := mrg1_len out a; rw [List.length_cons]; omega
  · rw [g4, mrg1_any t i r out a (fun b hb => ok b (ho b hb).1) (ok a ha.1), List.any_cons, Bool.or_assoc]
theorem fst_srt {t : TokP} {i : Nat} {l : List AceP} (hs : l.Pairwise (fun x y => rankA x ≤ rankA y)) (hk : ∀ a ∈ l, aceE a = 0 ∧ a.k ≠ 2) :
 fstA t i l = if l.any (hitR t i 0) = true then false else if l.any (hitR t i 1) = true then true else if l.any (hitR t i 2) = true then false else l.any (hitR t i 3) := by
 unfold fstA
 cases h : l.find? (hitB t i) with
 | none =>
  have hn := List.find?_eq_none.1 h
  have : ∀ r, l.any (hitR t i r) = false := fun r => by
   rw [List.any_eq_false]
   intro a ha hx
   unfold hitR at hx
   rw [Bool.and_eq_true] at hx
   exact hn a ha hx.2
  rw [this, this, this, this]; rfl
 | some a =>
  obtain ⟨hg, j, hj, e, hm⟩ := List.find?_eq_some_iff_getElem.1 h
  have ha : a ∈ l := by rw [← e]; exact List.getElem_mem hj
  have hp := List.pairwise_iff_getElem.1 hs
  have lo : ∀ r, r < rankA a → l.any (hitR t i r) = false := fun r hr => by
   rw [List.any_eq_false]
   intro b hb hx
   unfold hitR at hx
   rw [Bool.and_eq_true] at hx
   obtain ⟨hx1, hx2⟩ := hx
   have hx1 : rankA b = r := by simpa using hx1
   obtain ⟨m, hm', rfl⟩ := List.getElem_of_mem hb
   rcases Nat.lt_trichotomy m j with hlt | rfl | hgt
   · have := hm m hlt; rw [hx2] at this; cases this
   · rw [e] at hx1; omega
   · have := hp j m hj hm' hgt; rw [e] at this; omega
  have at_ : l.any (hitR t i (rankA a)) = true := List.any_eq_true.2 ⟨a, ha, by unfold hitR; rw [hg]; simp⟩
  obtain ⟨h1, h2⟩ := hk a ha
  obtain ⟨_, k0, k2, _⟩ := aceO_of h1
  show (a.k == 0) = _
  by_cases hk1 : a.k = 1
  · have ek : (a.k == 0) = false := by rw [hk1]; rfl
    rw [ek]
    cases hf : bitI a.f 4 with
    | false =>
     have er : rankA a = 0 := by unfold rankA; rw [if_pos hk1, hf]; rfl
     rw [er] at at_; rw [at_]; rfl
    | true =>
     have er : rankA a = 2 := by unfold rankA; rw [if_pos hk1, hf]; rfl
     rw [er] at at_ lo
     rw [lo 0 (by decide), lo 1 (by decide), at_]; rfl
  · have hk0 : a.k = 0 := by omega
    have ek : (a.k == 0) = true := by rw [hk0]; rfl
    rw [ek]
    cases hf : bitI a.f 4 with
    | false =>
     have er : rankA a = 1 := by unfold rankA; rw [if_neg hk1, hf]; rfl
     rw [er] at at_ lo
     rw [lo 0 (by decide), at_]; rfl
    | true =>
     have er : rankA a = 3 := by unfold rankA; rw [if_neg hk1, hf]; rfl
     rw [er] at at_ lo
     rw [lo 0 (by decide), lo 1 (by decide), lo 2 (by decide), at_]; rfl
theorem fst_mrg {t : TokP} {i : Nat} {l : List AceP} (hs : l.Pairwise (fun x y => rankA x ≤ rankA y)) (hk : ∀ a ∈ l, aceE a = 0 ∧ a.k ≠ 2) : fstA t i (mrgL l) = fstA t i l := by
 obtain ⟨g1, g2, _, g4⟩ := mrgG_spec l [] hk (fun b hb => by cases hb) hs .nil (fun b hb => by cases hb)
 rw [fst_srt hs hk, fst_srt (l := mrgL l) g1 g2]
 have e : ∀ r, (mrgL l).any (hitR t i r) = l.any (hitR t i r) := fun r => by unfold mrgL; rw [g4]; simp
 rw [e, e, e, e]
theorem rgt_mrg {d : DscP} {l : List AceP} (hs : l.Pairwise (fun x y => rankA x ≤ rankA y)) (hk : ∀ a ∈ l, aceE a = 0 ∧ a.k ≠ 2) (t : TokP) : rgtP { d with es := l } t = rgtP { d with es := mrgL l } t := by
 apply rgt_same
 intro i hi
 rw [grt_fst, grt_fst]
 show (_ || fstA t i l) = (_ || fstA t i (mrgL l))
 rw [fst_mrg hs hk]
theorem eachE_ok {α : Type} (f : Nat → α → Int) : ∀ (l : List α) (n : Nat), (∀ j (h : j < l.length), f (n + j) l[j] = 0) → (eachE f n l).2 = 0
 | [], n, _ => rfl
 | a :: l, n, h => by
  have h0 : f n a = 0 := h 0 (by simp)
  unfold eachE
  rw [h0]
  have := eachE_ok f l (n + 1) (fun j hj => by have := h (j + 1) (by simpa using hj); rw [show n + (j + 1) = n + 1 + j by omega] at this; simpa using this)
  simpa using this
theorem dscE_of {d : DscP} (h1 : hldB d.o = true) (h2 : hldB d.g = true) (h3 : d.es.length ≤ 16) (h4 : d.us.length ≤ 16) (h5 : d.he = false → d.es = []) (h6 : ∀ a ∈ d.es, aceE a = 0 ∧ a.k ≠ 2) (h7 : ∀ a ∈ d.us, aceE a = 0 ∧ a.k = 2) : dscE d = 0 := by
 unfold dscE dscP
 rw [if_neg (by unfold pairE; rw [h1, h2]; simp [unl]), if_neg (by omega), if_neg (by rintro ⟨a, b⟩; exact b (h5 a))]
 apply eachE_ok
 intro j hj
 unfold entE
 by_cases hlt : j < d.es.length
 · rw [List.getElem_append_left hlt]
   obtain ⟨g1, g2⟩ := h6 _ (List.getElem_mem hlt)
   rw [if_neg (by rw [g1]; simp)]
   have e1 : (d.es[j].k == 2) = false := by simpa using g2
   rw [e1, decide_eq_false (by omega)]; rfl
 · rw [List.getElem_append_right (by omega)]
   have hj' : j - d.es.length < d.us.length := by rw [List.length_append] at hj; omega
   obtain ⟨g1, g2⟩ := h7 _ (List.getElem_mem hj')
   rw [if_neg (by rw [g1]; simp)]
   have e1 : (d.us[j - d.es.length].k == 2) = true := by rw [g2]; rfl
   rw [e1, decide_eq_true (by omega)]; rfl
theorem aceE_m {b : AceP} (hb : aceE b = 0) {m : Int} (h1 : 1 ≤ m) (h2 : m ≤ 511) : aceE { b with m := m } = 0 := by
 unfold aceE at hb ⊢
 by_cases hk : inB b.k 0 2 = true
 · rw [if_pos hk] at hb ⊢
   by_cases hR : aceR b = true
   · have : aceR { b with m := m } = true := by
      unfold aceR at hR ⊢
      rw [Bool.and_eq_true, Bool.and_eq_true] at hR ⊢
      exact ⟨⟨hR.1.1, by show inB m 1 511 = true; rw [inB_true]; exact ⟨h1, h2⟩⟩, hR.2⟩
     rw [if_pos this]
   · rw [if_neg hR] at hb; exact absurd hb (by decide)
 · rw [if_neg hk] at hb; exact absurd hb (by decide)
theorem simG_ok : ∀ (l out : List AceP), (∀ a ∈ l, aceE a = 0 ∧ a.k ≠ 2) → (∀ b ∈ out, aceE b = 0 ∧ b.k ≠ 2) → (∀ b ∈ simG out l, aceE b = 0 ∧ b.k ≠ 2) ∧ (simG out l).length ≤ out.length + l.length
 | [], out, _, ho => ⟨ho, Nat.le_refl _⟩
 | a :: l, out, hl, ho => by
  have ok : ∀ b, aceE b = 0 → mOk b := fun b hb => by obtain ⟨⟨_, _, x, y⟩, _⟩ := aceO_of hb; exact ⟨x, y⟩
  have ha := hl a (List.mem_cons_self ..)
  have hs := sim1_m (ok a ha.1) (fun b hb => ok b (ho b hb).1)
  have hm := (ok a ha.1).2
  unfold simG
  have hp : (∀ b ∈ psh out (sim1 out a), aceE b = 0 ∧ b.k ≠ 2) ∧ (psh out (sim1 out a)).length ≤ out.length + 1 := by
   unfold psh
   split
   · exact ⟨ho, by omega⟩
   · rename_i hz
     refine ⟨fun b hb => ?_, by simp⟩
     rcases List.mem_append.1 hb with hb | hb
     · exact ho b hb
     · rw [List.mem_singleton.1 hb]
       obtain ⟨k1, k2, k3⟩ := sim1_keep out a
       have e : sim1 out a = { a with m := (sim1 out a).m } := by
        generalize sim1 out a = x at k1 k2 k3
        obtain ⟨x, y, z, v⟩ := x
        dsimp only at k1 k2 k3
        subst k1; subst k2; subst k3; rfl
       refine ⟨?_, by rw [k1]; exact ha.2⟩
       rw [e]
       exact aceE_m ha.1 (by omega) (by omega)
  obtain ⟨g1, g2⟩ := simG_ok l _ (fun x hx => hl x (List.mem_cons_of_mem _ hx)) hp.1
  exact ⟨g1, by rw [List.length_cons]; omega⟩
theorem simD_ok {d : DscP} (h : dscE d = 0) : dscE (simD d) = 0 := by
 obtain ⟨h1, h2, h3, h4, h5, h6, h7⟩ := dscE_zero h
 obtain ⟨g1, g2⟩ := simG_ok d.es [] h6 (fun b hb => by cases hb)
 refine dscE_of h1 h2 (by have : (simL d.es).length ≤ 0 + d.es.length := g2; show (simL d.es).length ≤ 16; omega) h4 (fun he => ?_) g1 h7
 have : d.es = [] := h5 he
 show simL d.es = []
 rw [this]; rfl
theorem mrg_ok {d : DscP} (h : dscE d = 0) {l : List AceP} (hp : l.Perm d.es) (hs : l.Pairwise (fun x y => rankA x ≤ rankA y)) : dscE { d with es := mrgL l } = 0 ∧ dscE { d with es := l } = 0 := by
 obtain ⟨h1, h2, h3, h4, h5, h6, h7⟩ := dscE_zero h
 have h6' : ∀ a ∈ l, aceE a = 0 ∧ a.k ≠ 2 := fun a ha => h6 a (hp.mem_iff.1 ha)
 obtain ⟨g1, g2, g3, g4⟩ := mrgG_spec l [] h6' (fun b hb => by cases hb) hs .nil (fun b hb => by cases hb)
 have hlen := hp.length_eq
 have hnil : d.he = false → l = [] := fun he => by have := h5 he; rw [this] at hp; exact List.Perm.eq_nil hp
 refine ⟨dscE_of h1 h2 ?_ h4 (fun he => ?_) g2 h7, dscE_of h1 h2 (by show l.length ≤ 16; omega) h4 hnil h6' h7⟩
 · have : (mrgL l).length ≤ 0 + l.length := g3
   show (mrgL l).length ≤ 16; omega
 · show mrgL l = []
   rw [hnil he]; rfl
end Go.Proofs.YtanicpgmbhfipaaGreatDoor
namespace Go.Proofs.YtanicpgmbhfipaaGreatDoor
set_option linter.unusedVariables false
set_option linter.unusedSimpArgs false
open Go.RowKit
theorem rank_in (a : AceP) : rankA a = 0 ∨ rankA a = 1 ∨ rankA a = 2 ∨ rankA a = 3 := by
 unfold rankA
 by_cases h1 : a.k = 1 <;> by_cases h2 : bitI a.f 4 = true
 · rw [if_pos h1, if_pos h2]; exact .inr (.inr (.inl rfl))
 · rw [if_pos h1, if_neg h2]; exact .inl rfl
 · rw [if_neg h1, if_pos h2]; exact .inr (.inr (.inr rfl))
 · rw [if_neg h1, if_neg h2]; exact .inr (.inl rfl)
def rkF (r : Int) (l : List AceP) : List AceP := l.filter fun a => rankA a == r
def canL (l : List AceP) : List AceP := rkF 0 l ++ (rkF 1 l ++ (rkF 2 l ++ rkF 3 l))
theorem rkF_none {l : List AceP} {r : Int} (h : ∀ a ∈ l, rankA a ≠ r) : rkF r l = [] := by
 unfold rkF
 rw [List.filter_eq_nil_iff]
 intro a ha
 have := h a ha
 simpa using this
theorem srt_can : ∀ (l : List AceP), l.Pairwise (fun x y => rankA x ≤ rankA y) → canL l = l
 | [], _ => rfl
 | a :: t, h => by
  obtain ⟨h1, h2⟩ := List.pairwise_cons.1 h
  have ih := srt_can t h2
  have hlo : ∀ r, r < rankA a → rkF r t = [] := fun r hr => rkF_none (fun b hb e => by have := h1 b hb; omega)
  have hc : ∀ r, rkF r (a :: t) = if rankA a = r then a :: rkF r t else rkF r t := fun r => by
   unfold rkF
   rw [List.filter_cons]
   by_cases e : rankA a = r
   · rw [if_pos e, if_pos (by rw [e]; simp)]
   · rw [if_neg e, if_neg (by simpa using e)]
  have ih' : rkF 0 t ++ (rkF 1 t ++ (rkF 2 t ++ rkF 3 t)) = t := ih
  unfold canL
  rw [hc 0, hc 1, hc 2, hc 3]
  rcases rank_in a with e | e | e | e <;> rw [e] at hlo ⊢
  · simp only [show ¬ (0 : Int) = 1 by decide, show ¬ (0 : Int) = 2 by decide, show ¬ (0 : Int) = 3 by decide, if_true, if_false]
    rw [List.cons_append, ih']
  · rw [hlo 0 (by decide)] at ih' ⊢
    simp only [show ¬ (1 : Int) = 0 by decide, show ¬ (1 : Int) = 2 by decide, show ¬ (1 : Int) = 3 by decide, if_true, if_false, List.nil_append] at ih' ⊢
    rw [List.cons_append, ih']
  · rw [hlo 0 (by decide), hlo 1 (by decide)] at ih' ⊢
    simp only [show ¬ (2 : Int) = 0 by decide, show ¬ (2 : Int) = 1 by decide, show ¬ (2 : Int) = 3 by decide, if_true, if_false, List.nil_append] at ih' ⊢
    rw [List.cons_append, ih']
  · rw [hlo 0 (by decide), hlo 1 (by decide), hlo 2 (by decide)] at ih' ⊢
    simp only [show ¬ (3 : Int) = 0 by decide, show ¬ (3 : Int) = 1 by decide, show ¬ (3 : Int) = 2 by decide, if_true, if_false, List.nil_append] at ih' ⊢
    rw [ih']
def sameR (y l : List AceP) : Prop := y.length = l.length ∧ ∀ r, rkF r y = rkF r l
theorem sameR.rfl' (l : List AceP) : sameR l l := ⟨rfl, fun _ => rfl⟩
theorem sameR.trans {x y l : List AceP} (h : sameR x y) (h' : sameR y l) : sameR x l := ⟨h.1.trans h'.1, fun r => (h.2 r).trans (h'.2 r)⟩
theorem can_of {y l : List AceP} (hs : y.Pairwise fun a b => rankA a ≤ rankA b) (h : sameR y l) : y = canL l := by
 rw [← srt_can y hs]
 unfold canL
 rw [h.2, h.2, h.2, h.2]
theorem can_srt (l : List AceP) : (canL l).Pairwise fun a b => rankA a ≤ rankA b := by
 have hm : ∀ r, ∀ a ∈ rkF r l, rankA a = r := fun r a ha => by
  have := (List.mem_filter.1 ha).2
  simpa using this
 have hp : ∀ r, (rkF r l).Pairwise fun a b => rankA a ≤ rankA b := fun r => by
  rw [List.pairwise_iff_getElem]
  intro i j hi hj hij
  rw [hm r _ (List.getElem_mem hi), hm r _ (List.getElem_mem hj)]
  exact Int.le_refl _
 unfold canL
 rw [List.pairwise_append, List.pairwise_append, List.pairwise_append]
 refine ⟨hp 0, ⟨hp 1, ⟨hp 2, hp 3, fun a ha b hb => ?_⟩, fun a ha b hb => ?_⟩, fun a ha b hb => ?_⟩
 · rw [hm _ a ha, hm _ b hb]; decide
 · rcases List.mem_append.1 hb with hb | hb <;> rw [hm _ a ha, hm _ b hb] <;> decide
 · rcases List.mem_append.1 hb with hb | hb
   · rw [hm _ a ha, hm _ b hb]; decide
   · rcases List.mem_append.1 hb with hb | hb <;> rw [hm _ a ha, hm _ b hb] <;> decide
theorem can_perm (l : List AceP) : (canL l).Perm l := by
 classical
 rw [List.perm_iff_count]
 intro a
 unfold canL rkF
 rw [List.count_append, List.count_append, List.count_append]
 have hc : ∀ r, (l.filter fun b => rankA b == r).count a = if rankA a = r then l.count a else 0 := fun r => by
  by_cases e : rankA a = r
  · rw [if_pos e, List.count_filter (by rw [e]; simp)]
  · rw [if_neg e]
    apply List.count_eq_zero.2
    intro h
    have := (List.mem_filter.1 h).2
    exact e (by simpa using this)
 rw [hc, hc, hc, hc]
 rcases rank_in a with e | e | e | e <;> rw [e] <;> simp
def swpL (l : List AceP) (j : Nat) (h : j + 1 < l.length) : List AceP := (l.set j l[j + 1]).set (j + 1) (l[j]'(by omega))
theorem swpL_len {l : List AceP} {j : Nat} (h : j + 1 < l.length) : (swpL l j h).length = l.length := by unfold swpL; simp
theorem swpL_eq {l : List AceP} {j : Nat} (h : j + 1 < l.length) : swpL l j h = l.take j ++ ([l[j + 1], l[j]'(by omega)] ++ l.drop (j + 2)) := by
 apply List.ext_getElem?
 intro n
 unfold swpL
 rw [List.getElem?_set, List.getElem?_set]
 have hl : (l.take j).length = j := by rw [List.length_take]; omega
 rcases Nat.lt_trichotomy n j with hn | hn | hn
 · rw [if_neg (by omega), if_neg (by omega), List.getElem?_append_left (by omega), List.getElem?_take_of_lt hn]
 · subst hn
   rw [if_neg (by omega), if_pos rfl, if_pos (by omega), List.getElem?_append_right (by omega), hl, Nat.sub_self]
   rfl
 · rw [List.getElem?_append_right (by omega), hl]
   by_cases e : n = j + 1
   · subst e
     rw [if_pos rfl, if_pos (by rw [List.length_set]; omega), show j + 1 - j = 1 by omega]
     rfl
   · rw [if_neg (by omega), if_neg (by omega), List.getElem?_append_right (by simp; omega), List.getElem?_drop]
     congr 1
     simp; omega
theorem split_at {l : List AceP} {j : Nat} (h : j + 1 < l.length) : l = l.take j ++ ([l[j]'(by omega), l[j + 1]] ++ l.drop (j + 2)) := by
 conv => lhs; rw [← List.take_append_drop j l]
 congr 1
 rw [List.drop_eq_getElem_cons (by omega), List.drop_eq_getElem_cons (by omega)]
 rfl
theorem swp_same {l : List AceP} {j : Nat} (h : j + 1 < l.length) (hne : rankA l[j + 1] ≠ rankA (l[j]'(by omega))) : sameR (swpL l j h) l := by
 refine ⟨swpL_len h, fun r => ?_⟩
 rw [swpL_eq h]
 conv => rhs; rw [split_at h]
 unfold rkF
 rw [List.filter_append, List.filter_append, List.filter_append, List.filter_append]
 congr 2
 generalize l[j + 1] = x at hne ⊢
 generalize l[j]'(by omega) = y at hne ⊢
 simp only [List.filter_cons, List.filter_nil]
 by_cases e1 : rankA x = r
 · have : ¬ rankA y = r := fun e => hne (by rw [e1, e])
   simp [e1, this]
 · by_cases e2 : rankA y = r <;> simp [e1, e2]
def insI (a i j : Nat) (y : List AceP) : Prop := ∀ p q, a ≤ p → (hp : p < q) → q ≤ i → q ≠ j → ∀ (h : q < y.length), rankA (y[p]'(by omega)) ≤ rankA y[q]
def srtI (a i : Nat) (y : List AceP) : Prop := ∀ p q, a ≤ p → (hp : p < q) → q < i → ∀ (h : q < y.length), rankA (y[p]'(by omega)) ≤ rankA y[q]
theorem srtI_one (a : Nat) (y : List AceP) : srtI a (a + 1) y := fun p q h1 h2 h3 h => by omega
theorem insI_begin {a i : Nat} {y : List AceP} (h : srtI a i y) : insI a i i y := fun p q h1 h2 h3 h4 hq => h p q h1 h2 (by omega) hq
theorem swp_get {l : List AceP} {j : Nat} (h : j + 1 < l.length) (n : Nat) (hn : n < l.length) : (swpL l j h)[n]'(by rw [swpL_len]; exact hn) = if n = j then l[j + 1] else if n = j + 1 then l[j]'(by omega) else l[n] := by
 unfold swpL
 rw [List.getElem_set]
 by_cases e1 : n = j
 · subst e1
   rw [if_neg (by omega), if_pos rfl, List.getElem_set, if_pos rfl]
 · rw [if_neg e1]
   by_cases e2 : n = j + 1
   · rw [if_pos e2.symm, if_pos e2]
   · rw [if_neg (fun e => e2 e.symm), if_neg e2, List.getElem_set, if_neg (fun e => e1 e.symm)]
theorem insI_step {a i j : Nat} {y : List AceP} (hj : a ≤ j) (hi : j + 1 ≤ i) (h : j + 1 < y.length) (hI : insI a i (j + 1) y) (hlt : rankA y[j + 1] < rankA (y[j]'(by omega))) : insI a i j (swpL y j h) := by
 intro p q h1 h2 h3 h4 hq
 rw [swpL_len] at hq
 rw [swp_get h p (by omega), swp_get h q hq]
 by_cases q1 : q = j + 1
 · subst q1
   rw [if_neg (show ¬ j + 1 = j by omega), if_pos rfl]
   by_cases p1 : p = j
   · rw [if_pos p1]; omega
   · rw [if_neg p1, if_neg (show ¬ p = j + 1 by omega)]
     exact hI p j h1 (by omega) (by omega) (by omega) (by omega)
 · rw [if_neg h4, if_neg q1]
   by_cases p1 : p = j
   · rw [if_pos p1]
     exact hI (j + 1) q (by omega) (by omega) h3 q1 hq
   · rw [if_neg p1]
     by_cases p2 : p = j + 1
     · rw [if_pos p2]
       exact hI j q hj (by omega) h3 q1 hq
     · rw [if_neg p2]
       exact hI p q h1 h2 h3 q1 hq
theorem insI_end {a i j : Nat} {y : List AceP} (hI : insI a i j y) (h : j ≤ a ∨ ∃ hj : 0 < j ∧ j < y.length, rankA (y[j - 1]'(by omega)) ≤ rankA (y[j]'hj.2)) : srtI a (i + 1) y := by
 intro p q h1 h2 h3 hq
 by_cases e : q = j
 · subst e
   rcases h with h | ⟨⟨hj, hl⟩, hle⟩
   · omega
   · by_cases p1 : p = q - 1
     · subst p1; exact hle
     · have := hI p (q - 1) h1 (by omega) (by omega) (by omega) (by omega)
       omega
 · exact hI p q h1 h2 (by omega) e hq
theorem srtI_all {y : List AceP} (h : srtI 0 y.length y) : y.Pairwise fun a b => rankA a ≤ rankA b := by
 rw [List.pairwise_iff_getElem]
 intro i j hi hj hij
 exact h i j (Nat.zero_le _) hij hj hj
end Go.Proofs.YtanicpgmbhfipaaGreatDoor
namespace Go.Proofs.YtanicpgmbhfipaaGreatDoor
set_option linter.unusedVariables false
set_option linter.unusedSimpArgs false
open Go.RowKit Go.Sort
theorem run_append_lit {P : Program} (w : World) (base : Nat) (t ty e : TypeId) (i : TypeInfo) (z : Value) (bytes : Nat) (ht : P.underlying t = some (.slice e)) (hi : P.info? e = some i) (hz : i.zero = some z)
 (hsize : i.size = 1) (hby : i.bytes = bytes) (hzs : z.cells.size = 1)
 (g : Nat) (u0 : Value) (hg : w.heap[g]? = some (.cells #[u0] e (0, 0))) (hbg : base ≤ g) (hbw : base ≤ w.heap.size)
 (B : Nat) (A : Option Addr) (m c : Nat) (news : List Value) (hl : news.length = m) (hr : Rd w B A news) (h1 : ∀ u ∈ news, u.oneCell' = true)
 (h63 : 1 + m ≤ maxLen) (hbytes : (1 + m) * bytes ≤ 140737488355328) :
 ∃ v' w', (Builtin.append_ #[t, t] ty #[.slice (some ⟨g, 0, none⟩) 1 1, .slice A m c]).run P w = .ok v' w' ∧ w'.ownsRow base e 1 v' (1 + m) (u0 :: news) ∧ Below w.heap.size w w' := by
 have hown : w.ownsRow base e 1 (.slice (some ⟨g, 0, none⟩) 1 1) 1 [u0] := ⟨rfl, .inr ⟨g, 1, #[u0], rfl, hbg, hg, Nat.le_refl _, by unfold maxLen; omega, rfl, rfl⟩⟩
 rcases A with _ | ad
 · have hm : news = [] := by
    rcases news with _ | ⟨u, l⟩
    · rfl
    · obtain ⟨b, o, h, _⟩ := hr 0 u rfl
      cases h
   subst hm
   obtain rfl : m = 0 := by simpa using hl.symm
   refine ⟨_, w, ?_, hown, Below.refl _ _⟩
   simp [Builtin.append_, run_underlying ht, sizeOf, typeInfo, hi, Builtin.lenOf, Builtin.firstCells, storeCells]
 · have hcells : ∀ j u, news[j]? = some u → w.cell? (ad.add j) = some u := fun j u hj => by
    obtain ⟨b, o, h, _, hc⟩ := hr j u hj
    injection h with h
    subst h
    have : (⟨b, o, none⟩ : Addr).add j = ⟨b, o + j, none⟩ := by unfold Addr.add; split <;> simp_all
    rw [this]
    exact hc
   rcases Nat.eq_zero_or_pos m with hm | hm
   · subst hm
     obtain rfl : news = [] := by simpa using hl
     obtain ⟨w', hrun, h2, h3⟩ := run_append_fits (P := P) w base t ty e i 1 ht hi hsize g 1 1 [u0] hown ad 0 c [] rfl hcells (by simp) (by omega)
     refine ⟨_, w', hrun, h2, ⟨h3.os, h3.tape, h3.output, h3.size, fun b hb => ?_⟩⟩
     by_cases hbg' : b = g
     · subst hbg'
       rcases h2.2 with ⟨h, _⟩ | ⟨g', cap, cur, hv, _, hg', _, _, hcs, htk⟩
       · cases h
       · injection hv with hv1 hv2 hv3
         injection hv1 with hv1
         injection hv1 with hv1
         subst hv1 hv3
         have hc : cur = #[u0] := by
          apply Array.toList_inj.1
          rw [List.take_of_length_le (by rw [Array.length_toList, hcs]; omega)] at htk
          simpa using htk
         rw [hg', hg, hc]
     · exact h3.block b hb (fun e => hbg' (by injection e))
   · obtain ⟨v', w', hrun, h2, h3⟩ := run_append_arg_grows (P := P) (w := w) t ty e i z 1 bytes ht hi hz hsize hby hzs (by decide) ⟨g, 0, none⟩ 1 1 [u0] rfl
      (fun j u hj => by
       have : (⟨g, 0, none⟩ : Addr).add j = ⟨g, j, none⟩ := by unfold Addr.add; split <;> simp_all
       rw [this, hown.cellAt j (by have := (List.getElem?_eq_some_iff.1 hj).1; simpa using this)]
       exact hj) ad m c news (by omega) hcells (by omega) h63 hbytes
     exact ⟨v', w', hrun, ownsRow_mono h2 hbw, ⟨h3.os, h3.tape, h3.output, h3.size, fun b hb => h3.block b hb (fun e => by cases e)⟩⟩
theorem leaves_append_lit {ev : Operand → Value} {o : Oper} {X : World} (s x : Operand) (ho : o.op = .call { callee := .builtin .append, args := #[s, x], argTypes := #[25, 25] })
 (base g : Nat) (a : Int) (hs : ev s = .slice (some ⟨g, 0, none⟩) 1 1) (hg : X.heap[g]? = some (.cells #[.int .i64 a] 3 (0, 0))) (hbg : base ≤ g) (hbw : base ≤ X.heap.size)
 (A : Option Addr) (c : Nat) (l : List Int) (hx : ev x = .slice A l.length c) (hr : Rd X X.heap.size A (l.map (.int .i64))) (hl : l.length ≤ 1000) :
 LeavesR Tryz.prog (RowN base (a :: l)) X ((execOp ev o).run Tryz.prog X) := by
 obtain ⟨i0, hi, hz0, hz1, hz2⟩ := info_parts infoInt
 obtain ⟨v', w', hrun, h2, h3⟩ := run_append_lit X base 25 o.type 3 i0 _ 8 Tryz.underlying25 hi hz0 hz1 hz2 rfl g (.int .i64 a) hg hbg hbw X.heap.size A l.length c (l.map (.int .i64)) (by simp) hr (by intro u hu; obtain ⟨x, _, rfl⟩ := List.mem_map.1 hu; rfl) (by unfold maxLen; omega) (by omega)
 have e : (execOp ev o).run Tryz.prog X = .ok (.value v') w' := by
  unfold execOp
  simp only [ho, resolve, invoke, builtin, Sem.run_bind, Sem.run_pure, Result.andThen_ok, List.map_toArray, List.map_cons, List.map_nil, hs, hx, hrun]
 rw [e]
 obtain ⟨A', c', rfl, _⟩ := ownsRow_form h2
 exact ⟨h3, A', c', by rw [List.length_cons, Nat.add_comm], by rw [List.length_cons, Nat.add_comm, List.map_cons]; exact h2⟩
theorem subL_len : ∀ (l : List Int) (n : Nat), (subL l n).length ≤ 2 ^ l.length
 | l, 0 => by unfold subL; exact Nat.one_le_two_pow
 | [], _ + 1 => by unfold subL; simp
 | a :: l, k + 1 => by
  have h1 := subL_len l k
  have h2 := subL_len l (k + 1)
  unfold subL
  rw [List.length_append, List.length_map, List.length_cons, Nat.pow_succ]
  omega
theorem subL_each : ∀ (l : List Int) (n : Nat), ∀ s ∈ subL l n, s.length ≤ l.length
 | l, 0, s, h => by unfold subL at h; simp at h; subst h; simp
 | [], _ + 1, s, h => by unfold subL at h; simp at h
 | a :: l, k + 1, s, h => by
  unfold subL at h
  rcases List.mem_append.1 h with h | h
  · obtain ⟨x, hx, rfl⟩ := List.mem_map.1 h
    have := subL_each l k x hx
    simp; omega
  · have := subL_each l (k + 1) s h
    simp; omega
def SubR (w : World) (L : List (List Int)) (e : Ending) (W' : World) : Prop := ∃ els B k, e = .returned (.slice B els.length k) ∧ rowsL els = L ∧ W'.ownsRow w.heap.size 25 1 (.slice B els.length k) els.length (rowsV els) ∧ (∀ p ∈ els, InO W' w.heap.size p) ∧ Below w.heap.size w W'
theorem wpList_push3 {P : Program} {ops : Array Oper} {rest : List Oper} {o : Oper} {a : Act} {Q : Exit → Act → World → Prop} (w : World) (hgd : o.guard = none) (s x : Operand) (t : TypeId)
 (ho : o.op = .call { callee := .builtin .append, args := #[s, x], argTypes := #[t, t] })
 (base : Nat) (e : TypeId) (i : TypeInfo) (z : Value) (size bytes : Nat) (us : List Value) (ht : P.underlying t = some (.slice e)) (hi : P.info? e = some i) (hz : i.zero = some z)
 (hsize : i.size = size) (hby : i.bytes = bytes) (hzs : z.cells.size = size) (hsz : 0 < size)
 (v : Value) (n : Nat) (xs : List Value) (hs : a.eval s = v) (hown : w.ownsRow base e size v n xs)
 (g : Nat) (hx : a.eval x = .slice (some ⟨g, 0, none⟩) 1 1) (hg : w.heap[g]? = some (.cells us.toArray e (0, 0))) (hl : us.length = size) (h1 : ∀ u ∈ us, u.oneCell' = true)
 (h63 : n + 1 ≤ maxLen) (hbytes : (n + 1) * bytes ≤ 140737488355328) (hbase : base ≤ w.heap.size)
 (h : ∀ v' w', w'.ownsRow base e size v' (n + 1) (xs ++ us) → w.grownBy w' v.ownBlock → (v'.ownBlock = v.ownBlock ∨ ∀ b, v'.ownBlock = some b → w.heap.size ≤ b) →
  (∀ b k, b < w.heap.size → (v.ownBlock = some b → k < n * size) → w'.cell? ⟨b, k, none⟩ = w.cell? ⟨b, k, none⟩) → Below base w w' → wpList P ops Q rest (a.put o.dst v') w') : wpList P ops Q (o :: rest) a w := by
 refine wpList_plain hgd fun K hK => ?_
 have hcells : ∀ j u, us[j]? = some u → w.cell? ((⟨g, 0, none⟩ : Addr).add j) = some u := fun j u hj => by
  have : (⟨g, 0, none⟩ : Addr).add j = ⟨g, j, none⟩ := by unfold Addr.add; split <;> simp_all
  rw [this, cell_of_row w g j _ e (0, 0) hg]
  simpa using hj
 obtain ⟨v', w', hr, h2, h3, h5, h6⟩ := run_push2 (P := P) w base t o.type e i z size bytes ht hi hz hsize hby hzs hsz v n xs hown ⟨g, 0, none⟩ 1 1 us (by omega) hcells h1 h63 hbytes hbase
 unfold Oper.wp execOp
 simp only [ho, resolve, invoke, builtin, Sem.run_bind, Sem.run_pure, Result.andThen_ok, List.map_toArray, List.map_cons, List.map_nil, hs, hx, hr]
 exact hK _ _ (h v' w' h2 h3 h5 h6 ((Below.refl _ _).grown h3 hbase (fun g hg => (hown.lt g hg).1)))
def Lit1 (B : Nat) (a : Int) (v : Value) (X : World) : Prop := ∃ g, v = .slice (some ⟨g, 0, none⟩) 1 1 ∧ B ≤ g ∧ X.heap[g]? = some (.cells #[.int .i64 a] 3 (0, 0))
theorem Lit1.stable {B : Nat} {a : Int} (v : Value) (X X' : World) (h : Lit1 B a v X) (hb : Below X.heap.size X X') : Lit1 B a v X' := by
 obtain ⟨g, h1, h2, h3⟩ := h
 exact ⟨g, h1, h2, (hb.block g (Array.getElem?_eq_some_iff.1 h3).1).trans h3⟩
def LitR (B : Nat) (l : List Int) (v : Value) (X : World) : Prop := ∃ g A c, v = .slice (some ⟨g, 0, none⟩) 1 1 ∧ B ≤ g ∧ X.heap[g]? = some (.cells #[.slice A l.length c] 25 (0, 0)) ∧ X.ownsRow B 3 1 (.slice A l.length c) l.length (l.map (.int .i64))
theorem LitR.stable {B : Nat} {l : List Int} (v : Value) (X X' : World) (h : LitR B l v X) (hb : Below X.heap.size X X') : LitR B l v X' := by
 obtain ⟨g, A, c, h1, h2, h3, h4⟩ := h
 exact ⟨g, A, c, h1, h2, (hb.block g (Array.getElem?_eq_some_iff.1 h3).1).trans h3, ownsRow_below h4 hb⟩
set_option maxRecDepth 100000 in
set_option maxHeartbeats 4000000 in
theorem subsets_any (n : Nat) : ∀ (l : List Int) (A : Option Addr) (c : Nat) (w : World), n ≤ 10 → l.length ≤ 4 → l.length ≤ c → c ≤ maxLen → Rd w w.heap.size A (l.map (.int .i64)) →
 Calls Tryz.prog 68 #[.slice A l.length c, .int .i64 n] w (SubR w (subL l n)) := by
 induction n with
 | zero =>
  intro l A c w hn hl hlc hcm hr
  have hsl : subL l 0 = [[]] := by unfold subL; rfl
  rw [hsl]
  have ho := World.ownsRow_lit (base := w.heap.size) (e := 25) (size := 1) w #[.slice none 0 0] 1 (Nat.le_refl _) (by unfold maxLen; omega) rfl
  go_enter Tryz.func68, Tryz.ntmps68
  go_wp2
  go_ret
  exact ⟨[(.slice none 0 0, [])], some ⟨w.heap.size, 0, none⟩, 1, rfl, rfl, ho, (fun p hp => by
   obtain rfl : p = (.slice none 0 0, []) := by simpa using hp
   exact ⟨none, 0, rfl, World.ownsRow_nil _ _ _ _⟩), bel_alloc (Below.refl _ _) _⟩
 | succ n ih =>
  intro l A c w hn hl hlc hcm hr
  obtain ⟨j0, hj, hy0, hy1, hy2⟩ := info_parts infoSli
  have HREC := Lib.hid (fun (k : Nat) (hk : k < l.length) (AA : Option Addr) (W : World) (hr : Rd W W.heap.size AA ((l.drop (k + 1)).map (.int .i64))) => by
   have := ih (l.drop (k + 1)) AA (c - (k + 1)) W (by omega) (by rw [List.length_drop]; omega) (by rw [List.length_drop]; omega) (by omega) hr
   rw [List.length_drop] at this
   exact this)
  have HR := Lib.hid (fun W (hW : Below w.heap.size w W) => hr.below' hW)
  unfold maxLen at hcm
  clear hr ih
  obtain ⟨q, hq⟩ : ∃ q : Int, q = ((n + 1 : Nat) : Int) := ⟨_, rfl⟩
  rw [← hq]
  have hq0 : (q == 0) = false := by simp; omega
  have hq1 : q - 1 = (n : Int) := by omega
  have hq2 : 0 ≤ q := by omega
  have hq3 : q ≤ 11 := by omega
  clear hq
  go_enter Tryz.func68, Tryz.ntmps68
  go_wp2
  go_loopw [5, 6] (fun out ix wr => ∃ (k : Nat) (els : List (Value × List Int)) (B : Option Addr) (cB : Nat), k ≤ l.length ∧ ix = .int .i64 k ∧ out = .slice B els.length cB ∧ wr.ownsRow w.heap.size 25 1 (.slice B els.length cB) els.length (rowsV els) ∧ rowsL els ++ subL (l.drop k) (n + 1) = subL l (n + 1) ∧ (∀ p ∈ els, InO wr w.heap.size p) ∧ Below w.heap.size w wr) (fun _ ix _ => l.length - (intOf ix).toNat)
  case atStart => exact ⟨0, [], none, 0, Nat.zero_le _, rfl, rfl, World.ownsRow_nil _ _ _ _, rfl, (fun p hp => by simp at hp), Below.refl _ _⟩
  case round =>
   obtain ⟨k, els, B, cB, hk, rfl, rfl, hown, hls, hin, hb⟩ := hrel
   have h16 : els.length ≤ 16 := by
    have h1 := congrArg List.length hls
    have h2 := subL_len l (n + 1)
    have h3 : 2 ^ l.length ≤ 2 ^ 4 := Nat.pow_le_pow_right (by decide) hl
    rw [List.length_append] at h1
    have h4 : (rowsL els).length = els.length := by simp [rowsL]
    omega
   have HLS := Lib.hid hls
   have HIN := Lib.hid hin
   have HB := Lib.hid hb
   have HOWN := Lib.hid hown
   clear hls hin hb hown
   by_cases hlt : k < l.length
   · obtain ⟨bl, ol, rfl, hBl, hcl2⟩ := (HR.out wr HB.out).opened (by simp; omega)
     clear hcl2
     go_upto_region 7 with fail
     go_cut [7] (fun s7 wx => ∃ els2 B2 k2, s7 = .slice B2 els2.length k2 ∧ rowsL els2 = subL (l.drop (k + 1)) n ∧ wx.ownsRow wr.heap.size 25 1 (.slice B2 els2.length k2) els2.length (rowsV els2) ∧ (∀ p ∈ els2, InO wx wr.heap.size p) ∧ Below wr.heap.size wr wx)
     case first =>
      by_cases hck : c = k + 1
      · subst hck
        have hrd : Rd wr wr.heap.size (some ⟨bl, ol, none⟩) ((l.drop (k + 1)).map (.int .i64)) := by
         rw [List.drop_of_length_le (by omega)]; exact Rd.nil _ _ _
        have hC := HREC.out k hlt (some ⟨bl, ol, none⟩) wr hrd
        rw [show k + 1 - (k + 1) = 0 by omega, show l.length - (k + 1) = 0 by omega] at hC
        have HC := Lib.hid hC
        clear hC
        clear hrd
        go_wp2_with (go_at_call 68; (with_reducible refine HC.out.mono ?_); rintro e W1 ⟨els2, B2, k2, rfl, hl2, ho2, hin2, hb1⟩)
        go_meet
        exact ⟨els2, B2, k2, rfl, hl2, ho2, hin2, hb1⟩
      · have hrd : Rd wr wr.heap.size (some ⟨bl, ol + (k + 1), none⟩) ((l.drop (k + 1)).map (.int .i64)) := by
         intro j u hj
         rw [List.getElem?_map, List.getElem?_drop, ← List.getElem?_map] at hj
         obtain ⟨b, o, e, hb, hc⟩ := HR.out wr HB.out (k + 1 + j) u hj
         injection e with e
         injection e with e1 e2
         subst e1 e2
         exact ⟨bl, ol + (k + 1), rfl, hb, by rw [show ol + (k + 1) + j = ol + (k + 1 + j) by omega]; exact hc⟩
        have HC := Lib.hid (HREC.out k hlt (some ⟨bl, ol + (k + 1), none⟩) wr hrd)
        clear hrd
        go_wp2_with (go_at_call 68; (with_reducible refine HC.out.mono ?_); rintro e W1 ⟨els2, B2, k2, rfl, hl2, ho2, hin2, hb1⟩)
        go_meet
        exact ⟨els2, B2, k2, rfl, hl2, ho2, hin2, hb1⟩
     case rest =>
     obtain ⟨els2, B2, k2, rfl, hl2, ho2, hin2, hb1⟩ := hcut
     have h2l : els2.length ≤ 16 := by
      have h1 := congrArg List.length hl2
      have h2 := subL_len (l.drop (k + 1)) n
      have h3 : 2 ^ (l.drop (k + 1)).length ≤ 2 ^ 4 := Nat.pow_le_pow_right (by decide) (by rw [List.length_drop]; omega)
      have h4 : (rowsL els2).length = els2.length := by simp [rowsL]
      omega
     have hs4 : ∀ p ∈ els2, p.2.length ≤ 4 := fun p hp => by
      have h1 : p.2 ∈ subL (l.drop (k + 1)) n := by rw [← hl2]; exact List.mem_map_of_mem hp
      have := subL_each _ _ _ h1
      rw [List.length_drop] at this
      omega
     have hdk : l.drop k = l[k] :: l.drop (k + 1) := List.drop_eq_getElem_cons hlt
     obtain ⟨a, ha⟩ : ∃ a, a = l[k] := ⟨_, rfl⟩
     rw [← ha] at hdk
     have hnext : ∀ L : List (List Int), L = (rowsL els2).map (a :: ·) → rowsL els ++ L ++ subL (l.drop (k + 1)) (n + 1) = subL l (n + 1) := fun L hL => by
      rw [hL, hl2, List.append_assoc, ← HLS.out, hdk]
      conv => rhs; unfold subL
     have hae : ∀ W, Below w.heap.size w W → W.cell? ⟨bl, ol + k, none⟩ = some (.int .i64 a) ∧ bl < W.heap.size := fun W hW => by
      obtain ⟨b, o, e, hb, hc⟩ := HR.out W hW k (.int .i64 a) (by simp [hlt, ha])
      injection e with e
      injection e with e1 e2
      subst e1 e2
      exact ⟨hc, hb⟩
     have HNEXT := Lib.hid hnext
     have HAE := Lib.hid hae
     have hbw := bel_trans HB.out hb1
     have hown := ownsRow_below HOWN.out hb1
     have hin := fun p hp => (HIN.out p hp).below hb1
     have hin2' := fun p hp => (fun (h : InO wc wr.heap.size p) => (show InO wc w.heap.size p from by obtain ⟨A, c, h1, h2⟩ := h; exact ⟨A, c, h1, ownsRow_mono h2 HB.out.size⟩)) (hin2 p hp)
     have hrd2 := Rd.of_own ho2
     have hne : ∀ b, (Value.slice B els.length cB).ownBlock = some b → ∀ b' o s, B2 = some ⟨b', o, s⟩ → b ≠ b' := fun b h1 b' o s h2 e => by
      have h3 := (HOWN.out.lt b h1).2
      have h4 := (ho2.lt b' (by rw [h2]; rfl)).1
      omega
     have HS4 := Lib.hid hs4
     have HOW := Lib.hid hown
     have HI1 := Lib.hid hin
     have HI2 := Lib.hid hin2'
     have HR2 := Lib.hid hrd2
     have HNE := Lib.hid hne
     have HBW := Lib.hid hbw
     clear hl2 ho2 hin2 hb1 hdk ha hnext hae hbw hown hin hin2' hrd2 hne hs4 HLS HIN HOWN
     go_wp2
     go_loopw [5, 8] (fun out jx wx => ∃ (j : Nat) (news : List (Value × List Int)) (B : Option Addr) (cB : Nat), j ≤ els2.length ∧ jx = .int .i64 j ∧ news.length = j ∧ out = .slice B (els.length + j) cB ∧ wx.ownsRow w.heap.size 25 1 (.slice B (els.length + j) cB) (els.length + j) (rowsV els ++ rowsV news) ∧ rowsL news = ((rowsL els2).take j).map (a :: ·) ∧ (∀ p ∈ els, InO wx w.heap.size p) ∧ (∀ p ∈ news, InO wx w.heap.size p) ∧ (∀ p ∈ els2, InO wx w.heap.size p) ∧ Below w.heap.size w wx ∧ Rd wx wx.heap.size B2 (rowsV els2) ∧ (∀ b, (Value.slice B (els.length + j) cB).ownBlock = some b → ∀ b' o s, B2 = some ⟨b', o, s⟩ → b ≠ b')) (fun _ jx _ => els2.length - (intOf jx).toNat)
     case atStart =>
      exact ⟨0, [], B, cB, Nat.zero_le _, rfl, rfl, rfl, by simpa [rowsV] using HOW.out, rfl, HI1.out, (fun p hp => by simp at hp), HI2.out, HBW.out, HR2.out, HNE.out⟩
     case round =>
      obtain ⟨j, news, B3, cB3, hj2, rfl, hnl, rfl, hown, hls, hin, hinn, hin2, hb, hrd, hne⟩ := hrel
      by_cases hlt2 : j < els2.length
      · obtain ⟨e0, hbl⟩ := HAE.out wr hb
        obtain ⟨b2, o2, rfl, hb2, hc2⟩ := hrd.opened (by simp [rowsV]; omega)
        obtain ⟨Ai, ci, hv, hown1⟩ := hin2 els2[j] (List.getElem_mem hlt2)
        have e1 := hc2 j els2[j].1 (by simp [rowsV, hlt2])
        rw [hv] at e1
        have hs := HS4.out els2[j] (List.getElem_mem hlt2)
        have htk : (rowsL els2).take (j + 1) = (rowsL els2).take j ++ [els2[j].2] := by
         rw [List.take_succ_eq_append_getElem (by simp [rowsL, hlt2])]
         simp [rowsL]
        obtain ⟨s, hss⟩ : ∃ s, s = els2[j].2 := ⟨_, rfl⟩
        rw [← hss] at e1 hown1 hs htk
        have HHR := Lib.hid (Rd.of_own hown1)
        have HLS := Lib.hid hls
        have HTK := Lib.hid htk
        have HOWN := Lib.hid hown
        have HI1 := Lib.hid hin
        have HI2 := Lib.hid hin2
        have HIN := Lib.hid hinn
        have HB2 := Lib.hid hb
        have HRD := Lib.hid hrd
        have HNE2 := Lib.hid hne
        clear hls htk hown hin hin2 hinn hb hrd hne hv hown1 hss hc2 HBW HOW HR2 HNE
        go_wp2
        (refine wp_region_flow [false, false, false, false, false, true, false, false, false, false, true, true] [⟨5, [], Lit1 wr.heap.size a, false⟩, ⟨10, [5], RowN wr.heap.size (a :: s), false⟩, ⟨11, [10], LitR wr.heap.size (a :: s), false⟩] (by kernel_rfl) (by kernel_rfl) (by kernel_rfl) (by kernel_rfl) ?_; simp only [pick, List.length_cons, List.length_nil, List.drop_succ_cons, List.drop_zero, Nat.zero_add, Nat.reduceAdd]; apply Exists.intro; refine ⟨fun X hX => ?_, ?_⟩; (focus (obtain ⟨hcX, hfX⟩ := bcell hX; have hgX := regcell hX; have hsX := hX.size; (try simp only [World.size_alloc] at hsX); (repeat (go_big_quiet_step ((first | fail)))); exact wpQuiet_nil rfl)); simp only [wpND, told, toldAll, List.contains_cons, List.contains_nil, List.mem_cons, List.not_mem_nil, forall_eq_or_imp, false_implies, implies_true, and_true, Nat.reduceBEq, BEq.rfl, beq_self_eq_true, Bool.or_false, Bool.false_or, Bool.true_or, Bool.or_true, Bool.false_eq_true, if_true, if_false, true_implies, dstAt, List.getElem?_toArray, List.getElem?_cons_succ, List.getElem?_cons_zero, Option.some.injEq, forall_eq', Option.bind_some, Act.put, List.setIfInBounds_toArray, List.set_cons_succ, List.set_cons_zero])
        refine ⟨Lit1.stable, fun X hX => ?_, fun v5 => ⟨RowN.stable, fun X hX hf => ?_, fun v10 => ⟨LitR.stable, fun X hX hf => ?_, fun v11 X hX hf => ?_⟩⟩⟩
        · exact leaves_alloc' (v := .slice (some ⟨X.heap.size, 0, none⟩) 1 1) (obj := .cells #[.int .i64 a] 3) (by kernel_rfl) ⟨X.heap.size, rfl, hX.size, heap_alloc_new _ _⟩
        · obtain ⟨g, rfl, hg1, hg2⟩ := hf
          exact leaves_append_lit _ _ rfl wr.heap.size g a rfl hg2 hg1 hX.size Ai ci s rfl (HHR.out.below' hX) (by omega)
        · obtain ⟨A', c', rfl, ho⟩ := hf
          exact leaves_alloc' (v := .slice (some ⟨X.heap.size, 0, none⟩) 1 1) (obj := .cells #[.slice A' (s.length + 1) c'] 25) (by kernel_rfl) ⟨X.heap.size, A', c', rfl, hX.size, heap_alloc_new _ _, ho.alloc _⟩
        · obtain ⟨⟨g, A', c', rfl, hg1, hg2, hor⟩, _⟩ := hf
          have hownX := ownsRow_below HOWN.out hX
          have hszX := (bel_trans HB2.out hX).size
          go_wp2_with (at_builtin; refine wpList_push3 X rfl (.tmp 31) (.tmp 42) 106 rfl w.heap.size 25 j0 _ 1 24 [.slice A' (s.length + 1) c'] Tryz.underlying106 hj hy0 hy1 hy2 rfl (by decide) (.slice B3 (els.length + j) cB3) _ _ rfl hownX g rfl hg2 rfl (by intro u hu; simp at hu; subst hu; rfl) (by unfold maxLen; omega) (by omega) hszX ?_; intro v5 V5 ow5 gr5 ob5 kc5 be5; obtain ⟨A5, c5, rfl, _⟩ := ownsRow_form ow5)
          have hbX := bel_trans HB2.out hX
          have hrX := HRD.out.below' hX
          have hl3 : (news ++ [((.slice A' (s.length + 1) c' : Value), a :: s)]).length = j + 1 := by simp [hnl]
          go_roundw
          case rel =>
           refine ⟨j + 1, news ++ [((.slice A' (s.length + 1) c' : Value), a :: s)], A5, c5, by omega, by go_num, hl3, rfl, ?_, ?_, fun p hp => ((HI1.out p hp).below hX).kept hownX (by decide) gr5, ?_, fun p hp => ((HI2.out p hp).below hX).kept hownX (by decide) gr5, hbX.trans be5, ?_, ?_⟩
           · have e : rowsV els ++ rowsV (news ++ [((.slice A' (s.length + 1) c' : Value), a :: s)]) = rowsV els ++ rowsV news ++ [.slice A' (s.length + 1) c'] := by simp [rowsV]
             rw [e]
             exact ow5
           · rw [HTK.out, List.map_append, ← HLS.out]; simp [rowsL]
           · intro p hp
             rcases List.mem_append.1 hp with hp | hp
             · exact ((HIN.out p hp).below hX).kept hownX (by decide) gr5
             · obtain rfl : p = ((.slice A' (s.length + 1) c' : Value), a :: s) := by simpa using hp
               exact InO.kept (p := ((.slice A' (s.length + 1) c' : Value), a :: s)) ⟨A', c', rfl, ownsRow_mono hor HB2.out.size⟩ hownX (by decide) gr5
           · intro i u hi
             obtain ⟨b', o', e, hb', hc'⟩ := hrX i u hi
             exact ⟨b', o', e, Nat.lt_of_lt_of_le hb' be5.size, (kc5 b' (o' + i) hb' (fun h => absurd rfl (HNE2.out b' h b' o' none e))).trans hc'⟩
           · intro b hb b' o' s' e
             rcases ob5 with h | h
             · exact HNE2.out b (h.symm.trans hb) b' o' s' e
             · have h1 := h b hb
               have h2 := hX.size
               injection e with e
               injection e with e1
               omega
          case measure => simp [intOf]; omega
      · obtain rfl : j = els2.length := by omega
        have htk : (rowsL els2).take els2.length = rowsL els2 := by
         rw [List.take_of_length_le (by simp [rowsL])]
        rw [htk] at hls
        have hl3 : els.length + els2.length = (els ++ news).length := by simp [hnl]
        have hfin := HNEXT.out _ hls
        have hrv : rowsV els ++ rowsV news = rowsV (els ++ news) := by simp [rowsV]
        rw [hrv] at hown
        rw [hl3] at hown ⊢
        have HOWN := Lib.hid hown
        have HFIN := Lib.hid hfin
        clear hls htk hown hfin hrv hrd hne hin2
        have HI1 := Lib.hid hin
        have HIN := Lib.hid hinn
        have HB3 := Lib.hid hb
        clear hin hinn hb
        go_wp2
        go_roundw
        case rel => exact ⟨k + 1, els ++ news, B3, cB3, by omega, by go_num, rfl, HOWN.out, by rw [← HFIN.out]; simp [rowsL], (fun p hp => (List.mem_append.1 hp).elim (HI1.out p) (HIN.out p)), HB3.out⟩
        case measure => simp [intOf]; omega
   · obtain rfl : k = l.length := by omega
     have hls := HLS.out
     rw [List.drop_of_length_le (Nat.le_refl _), show subL [] (n + 1) = [] by unfold subL; rfl, List.append_nil] at hls
     go_wp2
     go_ret
     exact ⟨els, B, cB, rfl, hls, HOWN.out, HIN.out, HB.out⟩
end Go.Proofs.YtanicpgmbhfipaaGreatDoor
namespace Go.Proofs.YtanicpgmbhfipaaGreatDoor
set_option linter.unusedVariables false
set_option linter.unusedSimpArgs false
open Go.RowKit Go.Sort
theorem WhoErr_any (A : Option Addr) (c : Nat) (l : List Int) (w : World) (hlen : l.length ≤ 100000) (hr : Rd w w.heap.size A (l.map (.int .i64))) :
 Calls Tryz.prog 27 #[.slice A l.length c] w fun e w' => e = .returned (.int .i64 (whoE l)) ∧ Below w.heap.size w w' := by
 have HA := Lib.hid (ascending_any A c l w hlen hr)
 obtain ⟨u, hu⟩ : ∃ u, u = usersE l := ⟨_, rfl⟩
 rw [← hu] at HA
 by_cases h5 : 5 < l.length
 · have hw : whoE l = 8 := by unfold whoE; rw [show decide (l.length ≤ 5) = false by simp; omega]; rfl
   rw [hw]
   clear hr
   go_enter Tryz.func27, Tryz.ntmps27
   go_wp2
   go_ret
   exact ⟨rfl, Below.refl _ _⟩
 · have hw : whoE l = u := by
    unfold whoE
    rw [show decide (l.length ≤ 5) = true by simp; omega, ← hu]
    by_cases h : u = 0
    · subst h; rfl
    · simp [firstE, unl, h]
   rw [hw]
   clear hr hw hu
   go_enter Tryz.func27, Tryz.ntmps27
   go_wp2_with (go_at_call 67; refine (HA.out).mono ?_; rintro e W1 ⟨rfl, hbW1⟩; obtain ⟨hcW1, hfW1⟩ := bcell hbW1)
   go_ret
   exact ⟨rfl, hbW1⟩
def othN (l : List Int) (i : Nat) : Nat → List Int
 | 0 => []
 | j + 1 => othN l i j ++ (if j = i then [] else [l.getD j 0])
theorem othN_eq (l : List Int) (i : Nat) : ∀ j, j ≤ l.length → othN l i j = if j ≤ i then l.take j else l.take i ++ (l.take j).drop (i + 1)
 | 0, _ => by simp [othN]
 | j + 1, h => by
  have ih := othN_eq l i j (by omega)
  have hg : l.getD j 0 = l[j] := by rw [List.getD_eq_getElem?_getD, List.getElem?_eq_getElem (by omega)]; rfl
  have htk : l.take (j + 1) = l.take j ++ [l[j]] := List.take_succ_eq_append_getElem (by omega)
  unfold othN
  rw [ih, hg]
  by_cases h1 : j < i
  · rw [if_pos (by omega), if_neg (by omega), if_pos (by omega), htk]
  · by_cases h2 : j = i
    · subst h2
      rw [if_pos (Nat.le_refl _), if_pos rfl, if_neg (by omega), List.drop_of_length_le (by rw [List.length_take]; omega)]
    · rw [if_neg (by omega), if_neg h2, if_neg (by omega), htk, List.drop_append_of_le_length (by rw [List.length_take]; omega), List.append_assoc]
theorem othN_all (l : List Int) (i : Nat) (hi : i < l.length) : othN l i l.length = othL l i := by
 rw [othN_eq l i _ (Nat.le_refl _), if_neg (by omega), List.take_of_length_le (Nat.le_refl _)]; rfl
theorem othN_len (l : List Int) (i : Nat) : ∀ j, (othN l i j).length ≤ j
 | 0 => Nat.le_refl _
 | j + 1 => by
  have := othN_len l i j
  unfold othN
  rw [List.length_append]
  split <;> simp <;> omega
def tokI (u : Int) (s : List Int) : TokP := ⟨u, s, 0⟩
def lvl (o : List Int) (j : Nat) : List (List Int) := (List.range j).flatMap (subL o)
theorem lvl_succ (o : List Int) (j : Nat) : lvl o (j + 1) = lvl o j ++ subL o j := by
 unfold lvl
 rw [List.range_succ, List.flatMap_append, List.flatMap_singleton]
theorem lvl_len (o : List Int) (h : o.length ≤ 4) : ∀ j, (lvl o j).length ≤ 16 * j
 | 0 => by simp [lvl]
 | j + 1 => by
  have h1 := lvl_len o h j
  have h2 := subL_len o j
  have h3 : 2 ^ o.length ≤ 2 ^ 4 := Nat.pow_le_pow_right (by decide) h
  rw [lvl_succ, List.length_append]
  omega
theorem lvl_all (l : List Int) (i : Nat) (hi : i < l.length) : toksN l (i + 1) = toksN l i ++ (lvl (othL l i) ((othL l i).length + 1)).map (tokI (l.getD i 0)) := by
 rw [toksN_succ]; rfl
theorem InT.kept {X Y : World} {B B' n : Nat} {e : TypeId} {s : Nat} {p : Value × TokP} {v : Value} {xs : List Value} (h : InT X B p) (hv : X.ownsRow B' e s v n xs) (hne : 3 ≠ e) (hg : X.grownBy Y v.ownBlock) : InT Y B p := InO.kept h hv hne hg
def LitT (B : Nat) (u : Int) (A : Option Addr) (n c : Nat) (v : Value) (X : World) : Prop := ∃ g, v = .slice (some ⟨g, 0, none⟩) 1 1 ∧ B ≤ g ∧ X.heap[g]? = some (.cells #[.int .i64 u, .slice A n c, .int .i64 0] 27 (0, 0))
theorem LitT.stable {B : Nat} {u : Int} {A : Option Addr} {n c : Nat} (v : Value) (X X' : World) (h : LitT B u A n c v X) (hb : Below X.heap.size X X') : LitT B u A n c v X' := by
 obtain ⟨g, h1, h2, h3⟩ := h
 exact ⟨g, h1, h2, (hb.block g (Array.getElem?_eq_some_iff.1 h3).1).trans h3⟩
set_option maxRecDepth 100000 in
set_option maxHeartbeats 8000000 in
theorem refTokens_any (A : Option Addr) (c : Nat) (l : List Int) (w : World) (hl : l.length ≤ 5) (hr : Rd w w.heap.size A (l.map (.int .i64))) :
 Calls Tryz.prog 28 #[.slice A l.length c] w fun e w' => ∃ ps B k, e = .returned (.slice B ps.length k) ∧ ps.map (·.2) = toksP l ∧ w'.ownsRow w.heap.size 27 3 (.slice B ps.length k) ps.length (toksV ps) ∧ (∀ p ∈ ps, InT w' w.heap.size p) ∧ Below w.heap.size w w' := by
 obtain ⟨i0, hi, hz0, hz1, hz2⟩ := info_parts infoTok
 obtain ⟨k0, hk0, hx0, hx1, hx2⟩ := info_parts DecidedBy_info
 have HR := Lib.hid (fun W (hW : Below w.heap.size w W) => hr.below' hW)
 clear hr
 go_enter Tryz.func28, Tryz.ntmps28
 go_wp2
 go_loopw [3, 4] (fun out ix wr => ∃ (k : Nat) (ps : List (Value × TokP)) (B : Option Addr) (cB : Nat), k ≤ l.length ∧ ix = .int .i64 k ∧ out = .slice B ps.length cB ∧ wr.ownsRow w.heap.size 27 3 (.slice B ps.length cB) ps.length (toksV ps) ∧ ps.map (·.2) = toksN l k ∧ (∀ p ∈ ps, InT wr w.heap.size p) ∧ Below w.heap.size w wr) (fun _ ix _ => l.length - (intOf ix).toNat)
 case atStart => exact ⟨0, [], none, 0, Nat.zero_le _, rfl, rfl, World.ownsRow_nil _ _ _ _, rfl, (fun p hp => by simp at hp), Below.refl _ _⟩
 case round =>
  obtain ⟨k, ps, B, cB, hk, rfl, rfl, hown, hls, hin, hb⟩ := hrel
  by_cases hlt : k < l.length
  · have hpl : ps.length ≤ 80 := by
     have h1 := congrArg List.length hls
     rw [List.length_map] at h1
     have h2 := toksN_len l hl k hk
     omega
    have HOWN := Lib.hid hown
    have HLS := Lib.hid hls
    have HIN := Lib.hid hin
    have HB := Lib.hid hb
    clear hown hls hin hb
    rename World => w1
    go_wp2
    go_loopw [5, 6] (fun r jx wx => ∃ (j : Nat) (A' : Option Addr) (c' : Nat), j ≤ l.length ∧ jx = .int .i64 j ∧ r = .slice A' (othN l k j).length c' ∧ wx.ownsRow w1.heap.size 3 1 (.slice A' (othN l k j).length c') (othN l k j).length ((othN l k j).map (.int .i64)) ∧ Below w1.heap.size w1 wx) (fun _ jx _ => l.length - (intOf jx).toNat)
    case atStart => exact ⟨0, none, 0, Nat.zero_le _, rfl, rfl, World.ownsRow_nil _ _ _ _, Below.refl _ _⟩
    case round =>
     obtain ⟨j, Ao, co, hj, rfl, rfl, ho, hbo⟩ := hrel
     have hol := othN_len l k j
     by_cases hlt2 : j < l.length
     · have hsu : othN l k (j + 1) = othN l k j ++ (if j = k then [] else [l.getD j 0]) := rfl
       obtain ⟨O, hO⟩ : ∃ O, O = othN l k j := ⟨_, rfl⟩
       rw [← hO] at ho hol hsu ⊢
       have HSU := Lib.hid hsu
       have HO := Lib.hid ho
       have HBO := Lib.hid hbo
       clear hO hsu ho hbo
       by_cases hjk : j = k
       · have hjk' : ((j : Int) != k) = false := by simp [hjk]
         have HJ := Lib.hid hjk
         clear hjk
         go_wp2
         go_roundw
         case rel =>
          have e : othN l k (j + 1) = O := by rw [HSU.out, if_pos HJ.out, List.append_nil]
          exact ⟨j + 1, Ao, co, by omega, by go_num, by rw [e], by rw [e]; exact HO.out, HBO.out⟩
         case measure => simp [intOf]; omega
       · have hjk' : ((j : Int) != k) = true := by simp; omega
         obtain ⟨bl, ol, rfl, hBl, hcl⟩ := (HR.out wr (bel_trans HB.out HBO.out)).opened (by simp; omega)
         have e0 := hcl j (.int .i64 l[j]) (by simp [hlt2])
         have hg : l.getD j 0 = l[j] := by rw [List.getD_eq_getElem?_getD, List.getElem?_eq_getElem hlt2]; rfl
         obtain ⟨u, hu⟩ : ∃ u, u = l[j] := ⟨_, rfl⟩
         rw [← hu] at e0 hg
         have e : othN l k (j + 1) = O ++ [u] := by rw [HSU.out, if_neg hjk, hg]
         have HE := Lib.hid e
         have hown := HO.out
         have hszX := HBO.out.size
         clear hcl hu hg e hjk
         go_wp2_with (at_builtin; refine wpList_push _ rfl (.tmp 25) (.tmp 30) 25 rfl w1.heap.size 3 k0 _ 1 8 [.int .i64 u] Tryz.underlying25 hk0 hx0 hx1 hx2 rfl (by decide) (.slice Ao O.length co) _ _ rfl hown _ rfl rfl rfl (by intro u hu; simp at hu; subst hu; rfl) (by unfold maxLen; omega) (by omega) hszX ?_; intro v5 V5 ow5 hk5 hs5 hb5 hv5 be5; obtain ⟨A5, c5, rfl, _⟩ := ownsRow_form ow5; clear hk5 hb5 hv5)
         go_roundw
         case rel => exact ⟨j + 1, A5, c5, by omega, by go_num, by rw [HE.out]; simp, by rw [HE.out, List.length_append, List.map_append]; exact ow5, HBO.out.trans be5⟩
         case measure => simp [intOf]; omega
     · obtain rfl : j = l.length := by omega
       rw [othN_all l k hlt] at ho hol ⊢
       have ho4 : (othL l k).length ≤ 4 := by rw [othL_len l k hlt]; omega
       have hall := lvl_all l k hlt
       obtain ⟨O, hO⟩ : ∃ O, O = othL l k := ⟨_, rfl⟩
       obtain ⟨u, hu⟩ : ∃ u, u = l.getD k 0 := ⟨_, rfl⟩
       rw [← hO] at ho hol ho4 hall ⊢
       rw [← hu] at hall
       have hu2 : u = l[k] := by rw [hu, List.getD_eq_getElem?_getD, List.getElem?_eq_getElem hlt]; rfl
       have HALL := Lib.hid hall
       have HU := Lib.hid hu2
       have hownX := ownsRow_below HOWN.out hbo
       have hinX := fun p hp => (InO.below (HIN.out p hp) hbo : InT wr w.heap.size p)
       have hbX := bel_trans HB.out hbo
       have hoX := ownsRow_mono ho HB.out.size
       have HO1 := Lib.hid hownX
       have HI1 := Lib.hid hinX
       have HB1 := Lib.hid hbX
       have HO2 := Lib.hid hoX
       clear hO hu hall hu2 ho hbo hownX hinX hbX hoX HOWN HIN HB
       rename World => w2
       go_wp2
       go_loopw [3, 7] (fun out jx wx => ∃ (j : Nat) (ps : List (Value × TokP)) (B : Option Addr) (cB : Nat), j ≤ O.length + 1 ∧ jx = .int .i64 j ∧ out = .slice B ps.length cB ∧ wx.ownsRow w.heap.size 27 3 (.slice B ps.length cB) ps.length (toksV ps) ∧ ps.map (·.2) = toksN l k ++ (lvl O j).map (tokI u) ∧ (∀ p ∈ ps, InT wx w.heap.size p) ∧ wx.ownsRow w.heap.size 3 1 (.slice Ao O.length co) O.length (O.map (.int .i64)) ∧ Below w.heap.size w wx) (fun _ jx _ => O.length + 1 - (intOf jx).toNat)
       case atStart => exact ⟨0, ps, B, cB, by omega, rfl, rfl, HO1.out, by rw [HLS.out]; simp [lvl], HI1.out, HO2.out, HB1.out⟩
       case round =>
        obtain ⟨j, ps2, B3, cB3, hj, rfl, rfl, hown, hls, hin, hoo, hb⟩ := hrel
        by_cases hlt3 : j ≤ O.length
        · have hcap := ownsRow_cap hoo
          have hcm := ownsRow_capmax hoo
          have HSUB := Lib.hid (subsets_any j O Ao co wr (by omega) ho4 hcap.1 hcm (Rd.of_own hoo))
          have hb16 : 2 ^ O.length ≤ 2 ^ 4 := Nat.pow_le_pow_right (by decide) ho4
          have hsl := subL_len O j
          have hpl3 : ps2.length ≤ 160 := by
           have h1 := congrArg List.length hls
           rw [List.length_map, List.length_append, List.length_map] at h1
           have h2 := toksN_len l hl k hk
           have h3 := lvl_len O ho4 j
           omega
          have HOWN := Lib.hid hown
          have HLS3 := Lib.hid hls
          have HIN := Lib.hid hin
          have HOO := Lib.hid hoo
          have HB := Lib.hid hb
          clear hown hls hin hoo hb hcap hcm HO1 HI1 HO2 HLS
          go_wp2_with (go_at_call 68; refine HSUB.out.mono ?_; rintro e W1 ⟨els, B2, k2, rfl, hl2, ho2, hin2, hb1⟩)
          have hel : els.length ≤ 16 := by
           have h1 := congrArg List.length hl2
           have h4 : (rowsL els).length = els.length := by simp [rowsL]
           omega
          have hs4 : ∀ p ∈ els, p.2.length ≤ 4 := fun p hp => by
           have h1 : p.2 ∈ subL O j := by rw [← hl2]; exact List.mem_map_of_mem hp
           have := subL_each _ _ _ h1
           omega
          have HS4 := Lib.hid hs4
          have HL2 := Lib.hid hl2
          have HO1 := Lib.hid (ownsRow_below HOWN.out hb1)
          have HI1 := Lib.hid (fun p hp => (InO.below (HIN.out p hp) hb1 : InT W1 w.heap.size p))
          have HO2 := Lib.hid (ownsRow_below HOO.out hb1)
          have HE1 := Lib.hid (ownsRow_mono ho2 HB.out.size)
          have HE2 := Lib.hid (fun p hp => (fun (h : InO W1 wr.heap.size p) => (show InO W1 w.heap.size p from by obtain ⟨A, c, h1, h2⟩ := h; exact ⟨A, c, h1, ownsRow_mono h2 HB.out.size⟩)) (hin2 p hp))
          have HB3 := Lib.hid (bel_trans HB.out hb1)
          clear hs4 hl2 ho2 hin2 hb1 HOWN HIN HOO HB HSUB hsl hb16
          rename World => w3
          go_wp2
          go_loopw [3, 9] (fun out jx wx => ∃ (m : Nat) (ps3 : List (Value × TokP)) (B : Option Addr) (cB : Nat), m ≤ els.length ∧ jx = .int .i64 m ∧ out = .slice B ps3.length cB ∧ wx.ownsRow w.heap.size 27 3 (.slice B ps3.length cB) ps3.length (toksV ps3) ∧ ps3.map (·.2) = toksN l k ++ (lvl O j).map (tokI u) ++ ((rowsL els).take m).map (tokI u) ∧ ps3.length ≤ 160 + m ∧ (∀ p ∈ ps3, InT wx w.heap.size p) ∧ wx.ownsRow w.heap.size 3 1 (.slice Ao O.length co) O.length (O.map (.int .i64)) ∧ wx.ownsRow w.heap.size 25 1 (.slice B2 els.length k2) els.length (rowsV els) ∧ (∀ p ∈ els, InO wx w.heap.size p) ∧ Below w.heap.size w wx) (fun _ jx _ => els.length - (intOf jx).toNat)
          case atStart => exact ⟨0, ps2, B3, cB3, Nat.zero_le _, rfl, rfl, HO1.out, by rw [HLS3.out]; simp, by omega, HI1.out, HO2.out, HE1.out, HE2.out, HB3.out⟩
          case round =>
           obtain ⟨m, ps3, B4, cB4, hm, rfl, rfl, hown, hls, hp3, hin, hoo, hea, hei, hb⟩ := hrel
           by_cases hlt4 : m < els.length
           · obtain ⟨bl, ol, rfl, hBl, hcl⟩ := (HR.out wr hb).opened (by simp; omega)
             have e0 := hcl k (.int .i64 l[k]) (by simp [hlt])
             rw [← HU.out] at e0
             obtain ⟨b2, o2, rfl, hb2, hc2⟩ := (Rd.of_own hea).opened (by simp [rowsV]; omega)
             obtain ⟨Ai, ci, hv, hown1⟩ := hei els[m] (List.getElem_mem hlt4)
             have e1 := hc2 m els[m].1 (by simp [rowsV, hlt4])
             rw [hv] at e1
             have hs := HS4.out els[m] (List.getElem_mem hlt4)
             have htk : (rowsL els).take (m + 1) = (rowsL els).take m ++ [els[m].2] := by
              rw [List.take_succ_eq_append_getElem (by simp [rowsL, hlt4])]
              simp [rowsL]
             obtain ⟨s, hss⟩ : ∃ s, s = els[m].2 := ⟨_, rfl⟩
             rw [← hss] at e1 hown1 hs htk
             have HHR := Lib.hid hown1
             have HLS4 := Lib.hid hls
             have HTK := Lib.hid htk
             have HOWN := Lib.hid hown
             have HIN := Lib.hid hin
             have HOO := Lib.hid hoo
             have HEA := Lib.hid hea
             have HEI := Lib.hid hei
             have HB := Lib.hid hb
             clear hls htk hown hin hoo hea hei hb hv hown1 hss hc2 hcl HO1 HI1 HO2 HE1 HE2 HB3
             go_wp2
             (refine wp_region_flow [false, false, false, false, false, false, false, false, false, false, true] [⟨10, [], LitT wr.heap.size u Ai s.length ci, false⟩] (by kernel_rfl) (by kernel_rfl) (by kernel_rfl) (by kernel_rfl) ?_; simp only [pick, List.length_cons, List.length_nil, List.drop_succ_cons, List.drop_zero, Nat.zero_add, Nat.reduceAdd]; apply Exists.intro; refine ⟨fun X hX => ?_, ?_⟩; (focus (obtain ⟨hcX, hfX⟩ := bcell hX; have hgX := regcell hX; have hsX := hX.size; (try simp only [World.size_alloc] at hsX); (repeat (go_big_quiet_step ((first | fail)))); exact wpQuiet_nil rfl)); simp only [wpND, told, toldAll, List.contains_cons, List.contains_nil, List.mem_cons, List.not_mem_nil, forall_eq_or_imp, false_implies, implies_true, and_true, Nat.reduceBEq, BEq.rfl, beq_self_eq_true, Bool.or_false, Bool.false_or, Bool.true_or, Bool.or_true, Bool.false_eq_true, if_true, if_false, true_implies, dstAt, List.getElem?_toArray, List.getElem?_cons_succ, List.getElem?_cons_zero, Option.some.injEq, forall_eq', Option.bind_some, Act.put, List.setIfInBounds_toArray, List.set_cons_succ, List.set_cons_zero])
             refine ⟨LitT.stable, fun X hX => ?_, fun v10 X hX hf => ?_⟩
             · exact leaves_alloc' (v := .slice (some ⟨X.heap.size, 0, none⟩) 1 1) (obj := .cells #[.int .i64 u, .slice Ai s.length ci, .int .i64 0] 27) (by kernel_rfl) ⟨X.heap.size, rfl, hX.size, heap_alloc_new _ _⟩
             · obtain ⟨g, rfl, hg1, hg2⟩ := hf
               have hownX := ownsRow_below HOWN.out hX
               have hszX := (bel_trans HB.out hX).size
               go_wp2_with (at_builtin; refine wpList_push3 X rfl (.tmp 47) (.tmp 57) 48 rfl w.heap.size 27 i0 _ 3 40 [.int .i64 u, .slice Ai s.length ci, .int .i64 0] Tryz.underlying48 hi hz0 hz1 hz2 rfl (by decide) (.slice B4 ps3.length cB4) _ _ rfl hownX g rfl hg2 rfl (by intro u hu; simp at hu; rcases hu with rfl | rfl | rfl <;> rfl) (by unfold maxLen; omega) (by omega) hszX ?_; intro v5 V5 ow5 gr5 ob5 kc5 be5; obtain ⟨A5, c5, rfl, _⟩ := ownsRow_form ow5)
               have hbX := bel_trans HB.out hX
               have hl3 : (ps3 ++ [((.slice Ai s.length ci : Value), tokI u s)]).length = ps3.length + 1 := by simp
               go_roundw
               case rel =>
                refine ⟨m + 1, ps3 ++ [((.slice Ai s.length ci : Value), tokI u s)], A5, c5, by omega, by go_num, by rw [hl3], ?_, ?_, by omega, ?_, (ownsRow_below HOO.out hX).kept gr5 (ownsRow_tags (ownsRow_below HOO.out hX) hownX (by decide)), (ownsRow_below HEA.out hX).kept gr5 (ownsRow_tags (ownsRow_below HEA.out hX) hownX (by decide)), fun p hp => ((HEI.out p hp).below hX).kept hownX (by decide) gr5, hbX.trans be5⟩
                · have e : toksV (ps3 ++ [((.slice Ai s.length ci : Value), tokI u s)]) = toksV ps3 ++ [.int .i64 u, .slice Ai s.length ci, .int .i64 0] := by simp [toksV, tokCl, tokI]
                  rw [hl3, e]
                  exact ow5
                · rw [HTK.out, List.map_append, HLS4.out]; simp
                · intro p hp
                  rcases List.mem_append.1 hp with hp | hp
                  · exact InT.kept (InO.below (HIN.out p hp) hX) hownX (by decide) gr5
                  · obtain rfl : p = ((.slice Ai s.length ci : Value), tokI u s) := by simpa using hp
                    exact InT.kept (p := ((.slice Ai s.length ci : Value), tokI u s)) ⟨Ai, ci, rfl, ownsRow_below HHR.out hX⟩ hownX (by decide) gr5
               case measure => simp [intOf]; omega
           · obtain rfl : m = els.length := by omega
             have htk : (rowsL els).take els.length = subL O j := by
              rw [List.take_of_length_le (by simp [rowsL]), HL2.out]
             rw [htk] at hls
             have hfin : ps3.map (·.2) = toksN l k ++ (lvl O (j + 1)).map (tokI u) := by rw [hls, lvl_succ, List.map_append, List.append_assoc]
             have HFIN := Lib.hid hfin
             have HOWN := Lib.hid hown
             have HIN := Lib.hid hin
             have HOO := Lib.hid hoo
             have HB := Lib.hid hb
             clear hls htk hfin hown hin hoo hea hei hb
             go_wp2
             go_roundw
             case rel => exact ⟨j + 1, ps3, B4, cB4, by omega, by go_num, rfl, HOWN.out, HFIN.out, HIN.out, HOO.out, HB.out⟩
             case measure => simp [intOf]; omega
        · obtain rfl : j = O.length + 1 := by omega
          have HFIN := Lib.hid (hls.trans HALL.out.symm)
          have HOWN := Lib.hid hown
          have HIN := Lib.hid hin
          have HB := Lib.hid hb
          clear hls hown hin hoo hb
          go_wp2
          go_roundw
          case rel => exact ⟨k + 1, ps2, B3, cB3, by omega, by go_num, rfl, HOWN.out, HFIN.out, HIN.out, HB.out⟩
          case measure => simp [intOf]; omega
  · obtain rfl : k = l.length := by omega
    go_wp2
    go_ret
    exact ⟨ps, B, cB, rfl, hls, hown, hin, hb⟩
end Go.Proofs.YtanicpgmbhfipaaGreatDoor
namespace Go.Proofs.YtanicpgmbhfipaaGreatDoor
set_option linter.unusedVariables false
set_option linter.unusedSimpArgs false
open Go.RowKit Go.Sort
def difR (a b : DscP) (L : List TokP) : TokP × Bool := match fstT xorF a b L with | some (t, _) => (t, true) | none => (noT, false)
theorem xorF_zero {x y : Int} (h0 : 0 ≤ x) (h1 : x < 512) (h2 : 0 ≤ y) (h3 : y < 512) : xorF x y = 0 ↔ x = y := by
 obtain ⟨a, rfl⟩ := Int.eq_ofNat_of_zero_le h0
 obtain ⟨b, rfl⟩ := Int.eq_ofNat_of_zero_le h2
 have ha : a < 512 := by omega
 have hb : b < 512 := by omega
 have e : xorF (a : Int) (b : Int) = ((a ^^^ b : Nat) : Int) := by
  have hx : a ^^^ b < 2 ^ 9 := Nat.xor_lt_two_pow (by omega) (by omega)
  unfold xorF bits
  simp only [BitVec.ofInt_natCast]
  have : (BitVec.ofNat 64 a ^^^ BitVec.ofNat 64 b).toNat = a ^^^ b := by
   rw [BitVec.toNat_xor, BitVec.toNat_ofNat, BitVec.toNat_ofNat, Nat.mod_eq_of_lt (by omega), Nat.mod_eq_of_lt (by omega)]
  show IntKind.i64.wrap ((BitVec.ofNat 64 a ^^^ BitVec.ofNat 64 b).toNat : Int) = _
  rw [this]
  exact wraps62 _ (Int.natCast_nonneg _) (by exact_mod_cast (show a ^^^ b < 2 ^ 62 by omega))
 rw [e]
 constructor
 · intro h
   have h' : a ^^^ b = 0 := by exact_mod_cast h
   have : a = b := by
    apply Nat.eq_of_testBit_eq
    intro i
    have := congrArg (Nat.testBit · i) h'
    simp at this
    exact this
   rw [this]
 · intro h
   have h' : a = b := by exact_mod_cast h
   subst h'
   simp
def DifRef (w : World) (t : TokP) (v : Value) (e : Ending) (w' : World) : Prop := ∃ A c, e = .returned (.tuple #[tokV t A c, v]) ∧ w'.ownsRow w.heap.size 3 1 (.slice A t.gs.length c) t.gs.length (t.gs.map (.int .i64)) ∧ Below w.heap.size w w'
theorem results_cell1b {P : Program} {fn : Func} {p q : Tmp} {ty : TypeId} (h : fn.results = #[.cell p ty, .tmp q]) (tmps : Array Value) (w : World) (g : Nat) (t : TypeId) (cs : Array Value) (d : TypeDesc) (u : Value)
 (hp : tmps.getD p undef = .pointer (some ⟨g, 0, none⟩)) (hq : tmps.getD q undef = u) (hg : Box w g cs t)
 (hu : P.underlying ty = some d) (hd : (match d with | .struct _ | .array _ _ => true | _ => false) = true) (hi : (P.info? ty).map (·.size) = some cs.size) :
 (results fn tmps).run P w = .ok (.tuple #[.agg cs, u]) w := by
 have hp' : tmps[p]?.getD undef = .pointer (some ⟨g, 0, none⟩) := by simpa using hp
 have hq' : tmps[q]?.getD undef = u := by simpa using hq
 simp [results, h, hp', hq', asAddr, run_loadVar_row w g t ty cs (0, 0) d hg hu hd hi]
set_option maxRecDepth 100000 in
set_option maxHeartbeats 8000000 in
theorem Difference_any (a b : DscP) (who : List Int) (A1 A2 B1 B2 A : Option Addr) (a1 a2 b1 b2 c : Nat) (w : World) (h : DD a b who A1 A2 B1 B2 A w) (hza : dscE a = 0) (hzb : dscE b = 0) (hw5 : who.length ≤ 5) :
 Calls Tryz.prog 31 #[dscV a A1 A2 a1 a2, dscV b B1 B2 b1 b2, .slice A who.length c] w (DifRef w (difR a b (toksP who)).1 (.bool (difR a b (toksP who)).2)) := by
 have hs3 : ((w.alloc (.cells (dscC a A1 A2 a1 a2) 24)).alloc (.cells (dscC b B1 B2 b1 b2) 24)).heap.size = w.heap.size + 1 + 1 := by simp only [World.size_alloc]
 have bA := ((Box.new w (dscC a A1 A2 a1 a2) 24).old (.cells (dscC b B1 B2 b1 b2) 24)).old (.cells #[.int .i64 0, .slice none 0 0, .int .i64 0] 27)
 have bB := (Box.new (w.alloc (.cells (dscC a A1 A2 a1 a2) 24)) (dscC b B1 B2 b1 b2) 24).old (.cells #[.int .i64 0, .slice none 0 0, .int .i64 0] 27)
 have bR := Box.new ((w.alloc (.cells (dscC a A1 A2 a1 a2) 24)).alloc (.cells (dscC b B1 B2 b1 b2) 24)) #[.int .i64 0, .slice none 0 0, .int .i64 0] 27
 rw [World.size_alloc] at bB
 rw [hs3] at bR
 have hb0 : Below w.heap.size w (((w.alloc (.cells (dscC a A1 A2 a1 a2) 24)).alloc (.cells (dscC b B1 B2 b1 b2) 24)).alloc (.cells #[.int .i64 0, .slice none 0 0, .int .i64 0] 27)) := bel_alloc (bel_alloc (bel_alloc (Below.refl _ _) _) _) _
 obtain ⟨X, hX0⟩ : ∃ X, X = ((w.alloc (.cells (dscC a A1 A2 a1 a2) 24)).alloc (.cells (dscC b B1 B2 b1 b2) 24)).alloc (.cells #[.int .i64 0, .slice none 0 0, .int .i64 0] 27) := ⟨_, rfl⟩
 rw [← hX0] at bA bB bR hb0
 have hsX : w.heap.size + 1 + 1 < X.heap.size := bR.lt
 have HX0 := Lib.hid hX0
 have BA := Lib.hid bA
 have BB := Lib.hid bB
 have BR := Lib.hid bR
 have HBX := Lib.hid hb0
 have HH := Lib.hid h
 have HTK := Lib.hid (refTokens_any A c who X hw5 (h.below hb0).r3)
 obtain ⟨Q, hQ⟩ : ∃ Q, Q = difR a b (toksP who) := ⟨_, rfl⟩
 rw [← hQ]
 have HQ := Lib.hid hQ
 have HZA := Lib.hid hza
 have HZB := Lib.hid hzb
 unfold dscC at BA BB HX0
 unfold dscV at *
 clear hX0 bA bB bR hb0 h hQ hza hzb hs3
 go_enter Tryz.func31, Tryz.ntmps31
 go_upto_region 1 with fail
 rw [← HX0.out]
 go_wp2_with (go_at_call 28; refine HTK.out.mono ?_; rintro e Wt ⟨ps, Bt, kt, rfl, hps, hown, hint, hbt⟩)
 have hpl : ps.length ≤ 80 := by
  have h1 := congrArg List.length hps
  rw [List.length_map] at h1
  have h2 := toksN_len who hw5 who.length (Nat.le_refl _)
  unfold toksP at h1
  omega
 have htk : ∀ p ∈ ps, p.2.p = 0 ∧ p.2.gs.length ≤ 5 := fun p hp => by
  have hm : p.2 ∈ toksP who := by rw [← hps]; exact List.mem_map_of_mem hp
  obtain ⟨h1, h2⟩ := toksP_p who p.2 hm
  exact ⟨h1, Nat.le_trans (h2 _ rfl) hw5⟩
 have HTKP := Lib.hid htk
 have HOWN := Lib.hid hown
 have HINT := Lib.hid hint
 have HBT := Lib.hid (bel_trans HBX.out hbt)
 have HBT2 := Lib.hid hbt
 have HQ4 := Lib.hid (show Q = difR a b ((ps.drop 0).map (·.2)) by rw [List.drop_zero, hps]; exact HQ.out)
 clear hown hint hbt hps htk HQ
 go_loopw [9] (fun ix wr => ∃ j : Nat, j ≤ ps.length ∧ ix = .int .i64 j ∧ Below Wt.heap.size Wt wr ∧ Q = difR a b ((ps.drop j).map (·.2))) (fun ix _ => ps.length - (intOf ix).toNat)
 case atStart => exact ⟨0, Nat.zero_le _, rfl, Below.refl _ _, HQ4.out⟩
 case round =>
  obtain ⟨j, hj, rfl, hb, hf⟩ := hrel
  have HBWX := Lib.hid (bel_trans HBT2.out hb)
  have brr := BR.out.below HBWX.out
  have HBR := Lib.hid brr
  have hbw := bel_trans HBT.out hb
  by_cases hlt : j < ps.length
  · obtain ⟨bl, ol, rfl, hBl, hcl⟩ := ((Rd.of_own HOWN.out).below hb).opened (by rw [toksV_length]; omega)
    obtain ⟨g0, g1, g2⟩ := toksV_get ps j hlt
    have c0 : wr.cell? ⟨bl, ol + j * 3, none⟩ = _ := hcl _ _ g0
    have c1 : wr.cell? ⟨bl, ol + j * 3 + 1, none⟩ = _ := hcl _ _ g1
    have c2 : wr.cell? ⟨bl, ol + j * 3 + 1 + 1, none⟩ = _ := hcl _ _ g2
    have hBlr : bl < wr.heap.size := Nat.lt_of_lt_of_le hBl hb.size
    have hd : ps.drop j = ps[j] :: ps.drop (j + 1) := List.drop_eq_getElem_cons hlt
    obtain ⟨Ai, ci, hv, hown1⟩ := HINT.out ps[j] (List.getElem_mem hlt)
    obtain ⟨hp0, hg5⟩ := HTKP.out ps[j] (List.getElem_mem hlt)
    obtain ⟨t, ht⟩ : ∃ t, t = ps[j].2 := ⟨_, rfl⟩
    have hv' : ps[j].1 = .slice Ai t.gs.length ci := by rw [ht]; exact hv
    rw [hv'] at c1
    rw [← ht] at c0 c2 hp0 hg5
    have hown2 : Wt.ownsRow X.heap.size 3 1 (.slice Ai t.gs.length ci) t.gs.length (t.gs.map (.int .i64)) := by rw [ht]; exact hown1
    have hf2 : Q = difR a b (t :: (ps.drop (j + 1)).map (·.2)) := by rw [hf, hd, List.map_cons, ht]
    have hg : Rd wr wr.heap.size Ai (t.gs.map (.int .i64)) := Rd.of_own (ownsRow_below hown2 hb)
    have HMA := Lib.hid (fun W (hW : Below wr.heap.size wr W) => refRights_any a t A1 A2 Ai a1 a2 ci W (((HH.out.below hbw).below hW).dta t Ai (by omega) (hg.below' hW)) (dtO_dsc HZA.out t hp0))
    have HMB := Lib.hid (fun W (hW : Below wr.heap.size wr W) => refRights_any b t B1 B2 Ai b1 b2 ci W (((HH.out.below hbw).below hW).dtb t Ai (by omega) (hg.below' hW)) (dtO_dsc HZB.out t hp0))
    have hra0 := rgtP_bd a t
    have hrb0 := rgtP_bd b t
    unfold difR at hf2
    rw [fstT] at hf2
    obtain ⟨ra, hra⟩ : ∃ x, x = rgtP a t := ⟨_, rfl⟩
    obtain ⟨rb, hrb⟩ : ∃ x, x = rgtP b t := ⟨_, rfl⟩
    rw [← hra] at HMA hf2 hra0
    rw [← hrb] at HMB hf2 hrb0
    have HF2 := Lib.hid hf2
    have HB2 := Lib.hid hb
    have HO2 := Lib.hid hown2
    have HBW := Lib.hid hbw
    have ba := BA.out.below HBWX.out
    have bb := BB.out.below HBWX.out
    have y0 : wr.cell? ⟨w.heap.size, 0, none⟩ = some (.int .i64 a.o) := Box.cells ba 0; have y1 : wr.cell? ⟨w.heap.size, 1, none⟩ = some (.int .i64 a.g) := Box.cells ba 1; have y2 : wr.cell? ⟨w.heap.size, 2, none⟩ = some (.bool a.pr) := Box.cells ba 2; have y3 : wr.cell? ⟨w.heap.size, 3, none⟩ = some (.bool a.he) := Box.cells ba 3; have y4 : wr.cell? ⟨w.heap.size, 4, none⟩ = some (.slice A1 a.es.length a1) := Box.cells ba 4; have y5 : wr.cell? ⟨w.heap.size, 5, none⟩ = some (.slice A2 a.us.length a2) := Box.cells ba 5
    have z0 : wr.cell? ⟨w.heap.size + 1, 0, none⟩ = some (.int .i64 b.o) := Box.cells bb 0; have z1 : wr.cell? ⟨w.heap.size + 1, 1, none⟩ = some (.int .i64 b.g) := Box.cells bb 1; have z2 : wr.cell? ⟨w.heap.size + 1, 2, none⟩ = some (.bool b.pr) := Box.cells bb 2; have z3 : wr.cell? ⟨w.heap.size + 1, 3, none⟩ = some (.bool b.he) := Box.cells bb 3; have z4 : wr.cell? ⟨w.heap.size + 1, 4, none⟩ = some (.slice B1 b.es.length b1) := Box.cells bb 4; have z5 : wr.cell? ⟨w.heap.size + 1, 5, none⟩ = some (.slice B2 b.us.length b2) := Box.cells bb 5
    have l0 : w.heap.size < wr.heap.size := ba.lt
    have l1 : w.heap.size + 1 < wr.heap.size := bb.lt
    have l2 : w.heap.size + 1 + 1 < wr.heap.size := brr.lt
    unfold dscV tokV at HMA HMB
    clear hf hf2 hd hv hv' ht hown1 hown2 g0 g1 g2 hcl hbw hg hra hrb hb hp0 ba bb brr
    go_wp2
    have hgX := regcell (Below.refl _ wr)
    (refine wp_region_quiet_below (by kernel_rfl) (by kernel_rfl) ?_; (repeat (go_big_quiet_step ((first | (go_at_call 17; (with_reducible exact Calls.regrown_of (HMA.out _ (below_regrown wr _ _)))) | (go_at_call 17; (with_reducible exact Calls.regrown_of (HMB.out _ (below_regrown wr _ _)))))))); (with_reducible refine wpQuiet_nil ?_); intro X2 hreg; have hbX2 := below_of_reg hreg; clear hreg; obtain ⟨hcX2, hfX2⟩ := bcell hbX2)
    have HX2 := Lib.hid hbX2
    have br2 := HBR.out.below hbX2
    have d0 : X2.cell? ⟨bl, ol + j * 3, none⟩ = _ := (hcX2 _ _ hBlr).trans c0
    have d1 : X2.cell? ⟨bl, ol + j * 3 + 1, none⟩ = _ := (hcX2 _ _ hBlr).trans c1
    have d2 : X2.cell? ⟨bl, ol + j * 3 + 1 + 1, none⟩ = _ := (hcX2 _ _ hBlr).trans c2
    have hBl2 : bl < X2.heap.size := Nat.lt_of_lt_of_le hBlr hbX2.size
    clear y0 y1 y2 y3 y4 y5 z0 z1 z2 z3 z4 z5 hbX2 hcX2 hfX2 hgX c0 c1 c2
    by_cases hq0 : ra = rb
    · have hF3 : Q = difR a b ((ps.drop (j + 1)).map (·.2)) := by
       rw [HF2.out, if_neg (by rw [ne_eq, Classical.not_not]; exact (xorF_zero hra0.1 hra0.2 hrb0.1 hrb0.2).2 hq0)]; rfl
      subst hq0
      have HF3 := Lib.hid hF3
      clear hF3
      go_wp2
      go_roundw
      case rel => exact ⟨j + 1, by omega, by go_num, bel_trans HB2.out HX2.out, HF3.out⟩
      case measure => simp [intOf]; omega
    · have hF3 : Q = (t, true) := by
       rw [HF2.out, if_pos (by rw [ne_eq, xorF_zero hra0.1 hra0.2 hrb0.1 hrb0.2]; exact hq0)]
      have hq0' : (ra != rb) = true := by simpa using hq0
      have HF3 := Lib.hid hF3
      clear hF3 hq0
      go_wp2_with (refine wpList_store_newG rfl 27 (.tmp 6) (.tmp 34) rfl rfl (w.heap.size + 1 + 1) #[.int .i64 t.u, .slice Ai t.gs.length ci, .int .i64 t.p] rfl rfl 27 _ br2 (by kernel_rfl) (by kernel_rfl) (by kernel_rfl) ?_; intro W4 g4 br4 keep4)
      have hb4 := g4.belowAt (bel_trans HBW.out HX2.out) (by omega)
      have hown4 : W4.ownsRow w.heap.size 3 1 (.slice Ai t.gs.length ci) t.gs.length (t.gs.map (.int .i64)) := ownsRow_mono (ownsRow_grw (ownsRow_below (ownsRow_below HO2.out HB2.out) HX2.out) g4 (by omega)) (by omega)
      rw [HF3.out]
      exact bodyPost_ret (results_cell1b Tryz.results31 _ W4 (w.heap.size + 1 + 1) 27 _ _ _ rfl rfl br4 Tryz.underlying27 rfl (by kernel_rfl)) rfl ⟨Ai, ci, rfl, hown4, hb4⟩
  · have hQ5 : Q = difR a b [] := by rw [hf, List.drop_of_length_le (by omega)]; rfl
    clear hf hb
    go_wp2_with (refine wpList_store_newG rfl 27 (.tmp 6) (.tmp 35) rfl rfl (w.heap.size + 1 + 1) #[.int .i64 0, .slice none 0 0, .int .i64 0] rfl rfl 27 _ HBR.out (by kernel_rfl) (by kernel_rfl) (by kernel_rfl) ?_; intro W4 g4 br4 keep4)
    have hb4 := g4.belowAt hbw (by omega)
    rw [hQ5]
    exact bodyPost_ret (results_cell1b Tryz.results31 _ W4 (w.heap.size + 1 + 1) 27 _ _ _ rfl rfl br4 Tryz.underlying27 rfl (by kernel_rfl)) rfl ⟨none, 0, rfl, World.ownsRow_nil _ _ _ _, hb4⟩
end Go.Proofs.YtanicpgmbhfipaaGreatDoor
namespace Go.Proofs.YtanicpgmbhfipaaGreatDoor
set_option linter.unusedVariables false
set_option linter.unusedSimpArgs false
open Go.RowKit Go.Sort
end Go.Proofs.YtanicpgmbhfipaaGreatDoor
namespace Go.Proofs.YtanicpgmbhfipaaGreatDoor
set_option linter.unusedVariables false
set_option linter.unusedSimpArgs false
open Go.RowKit Go.Sort
set_option maxRecDepth 100000 in
set_option maxHeartbeats 2000000 in
theorem CopyDsc_own (d : DscP) (A1 A2 : Option Addr) (c1 c2 : Nat) (w : World) (h1 : d.es.length ≤ 500) (h2 : d.us.length ≤ 500) (hr1 : Rd w w.heap.size A1 (acesV d.es)) (hr2 : Rd w w.heap.size A2 (acesV d.us)) :
 Calls Tryz.prog 12 #[dscV d A1 A2 c1 c2] w fun e w' => ∃ B1 B2 k1 k2, e = .returned (dscV d B1 B2 k1 k2) ∧ w'.ownsRow w.heap.size 111 4 (.slice B1 d.es.length k1) d.es.length (acesV d.es) ∧ w'.ownsRow w.heap.size 111 4 (.slice B2 d.us.length k2) d.us.length (acesV d.us) ∧ Below w.heap.size w w' := by
 have HR1 := Lib.hid hr1
 have HR2 := Lib.hid hr2
 unfold dscV
 obtain ⟨o, g, pr, he, es, us⟩ := d
 dsimp only at *
 have bD := (Box.new w #[.int .i64 o, .int .i64 g, .bool pr, .bool he, .slice A1 es.length c1, .slice A2 us.length c2] 24).old (.cells #[.int .i64 0, .int .i64 0, .bool false, .bool false, .slice none 0 0, .slice none 0 0] 24)
 have bR := Box.new (w.alloc (.cells #[.int .i64 o, .int .i64 g, .bool pr, .bool he, .slice A1 es.length c1, .slice A2 us.length c2] 24)) #[.int .i64 0, .int .i64 0, .bool false, .bool false, .slice none 0 0, .slice none 0 0] 24
 rw [World.size_alloc] at bR
 have hb0 : Below w.heap.size w ((w.alloc (.cells #[.int .i64 o, .int .i64 g, .bool pr, .bool he, .slice A1 es.length c1, .slice A2 us.length c2] 24)).alloc (.cells #[.int .i64 0, .int .i64 0, .bool false, .bool false, .slice none 0 0, .slice none 0 0] 24)) := bel_alloc (bel_alloc (Below.refl _ _) _) _
 obtain ⟨W0, hW0⟩ : ∃ W0, W0 = (w.alloc (.cells #[.int .i64 o, .int .i64 g, .bool pr, .bool he, .slice A1 es.length c1, .slice A2 us.length c2] 24)).alloc (.cells #[.int .i64 0, .int .i64 0, .bool false, .bool false, .slice none 0 0, .slice none 0 0] 24) := ⟨_, rfl⟩
 rw [← hW0] at bD bR hb0
 have HW0 := Lib.hid hW0
 have BD := Lib.hid bD
 have BR := Lib.hid bR
 have HB0 := Lib.hid hb0
 have hs0 : W0.heap.size = w.heap.size + 1 + 1 := by rw [hW0]; simp only [World.size_alloc]
 have y4 : W0.cell? ⟨w.heap.size, 4, none⟩ = some (.slice A1 es.length c1) := bD.cells 4
 have y5 : W0.cell? ⟨w.heap.size, 5, none⟩ = some (.slice A2 us.length c2) := bD.cells 5
 have l0 : w.heap.size < W0.heap.size := bD.lt
 clear hW0 bD bR hb0 hr1 hr2 hs0
 go_enter Tryz.func12, Tryz.ntmps12
 go_wp2
 rw [← HW0.out]
 (refine wp_region_flow [false, false, true, false, false, true, false] [⟨2, [], RowA W0.heap.size es, false⟩, ⟨5, [], RowA W0.heap.size us, false⟩] (by kernel_rfl) (by kernel_rfl) (by kernel_rfl) (by kernel_rfl) ?_; simp only [pick, List.length_cons, List.length_nil, List.drop_succ_cons, List.drop_zero, Nat.zero_add, Nat.reduceAdd]; apply Exists.intro; refine ⟨fun X hX => ?_, ?_⟩; (focus (obtain ⟨hcX, hfX⟩ := bcell hX; have hgX := regcell hX; have hsX := hX.size; (try simp only [World.size_alloc] at hsX); (repeat (go_big_quiet_step ((first | fail)))); exact wpQuiet_nil rfl)); simp only [wpND, told, toldAll, List.contains_cons, List.contains_nil, List.mem_cons, List.not_mem_nil, forall_eq_or_imp, false_implies, implies_true, and_true, Nat.reduceBEq, BEq.rfl, beq_self_eq_true, Bool.or_false, Bool.false_or, Bool.true_or, Bool.or_true, Bool.false_eq_true, if_true, if_false, true_implies, dstAt, List.getElem?_toArray, List.getElem?_cons_succ, List.getElem?_cons_zero, Option.some.injEq, forall_eq', Option.bind_some, Act.put, List.setIfInBounds_toArray, List.set_cons_succ, List.set_cons_zero])
 refine ⟨RowA.stable, fun X hX => ?_, fun v1 => ⟨RowA.stable, fun X hX => ?_, fun v2 X hX hf => ?_⟩⟩
 · refine leaves_call' (f := 42) (args := #[.slice A1 es.length c1]) (by kernel_rfl) ((CopyAces_it A1 c1 es X (by omega) (HR1.out.below' (bel_trans HB0.out hX))).mono ?_)
   rintro e w' ⟨A', c', rfl, ho, hb⟩
   exact ⟨_, rfl, hb, A', c', rfl, ownsRow_mono ho hX.size⟩
 · refine leaves_call' (f := 42) (args := #[.slice A2 us.length c2]) (by kernel_rfl) ((CopyAces_it A2 c2 us X (by omega) (HR2.out.below' (bel_trans HB0.out hX))).mono ?_)
   rintro e w' ⟨A', c', rfl, ho, hb⟩
   exact ⟨_, rfl, hb, A', c', rfl, ownsRow_mono ho hX.size⟩
 · obtain ⟨⟨B2, k2, rfl, ho2⟩, B1, k1, rfl, ho1⟩ := hf
   have hbX := bel_trans HB0.out hX
   have bd := BD.out.below hX
   have br := BR.out.below hX
   have hne : w.heap.size + 1 ≠ w.heap.size := by omega
   have HX := Lib.hid hX
   have HO1 := Lib.hid ho1
   have HO2 := Lib.hid ho2
   clear hX y4 y5 l0 ho1 ho2
   refine wpList_store_fieldG rfl 22 (.tmp 9) (.tmp 5) rfl rfl w.heap.size 4 (.slice B1 es.length k1) rfl rfl rfl (by kernel_rfl) 24 _ bd (by simp) ?_
   intro W2 g2 bd2 keep2
   have br2 := keep2 _ _ _ hne br
   go_wp2_with (first | (at_builtin; fail) | (refine wpList_store_fieldG rfl 22 (.tmp 10) (.tmp 8) rfl rfl w.heap.size 5 (.slice B2 us.length k2) rfl rfl rfl (by kernel_rfl) 24 _ bd2 (by simp) ?_; intro W3 g3 bd3 keep3; have br3 := keep3 _ _ _ hne br2; have y0 : W3.cell? ⟨w.heap.size, 0, none⟩ = some (.int .i64 o) := bd3.cells 0; have y1 : W3.cell? ⟨w.heap.size, 1, none⟩ = some (.int .i64 g) := bd3.cells 1; have y2 : W3.cell? ⟨w.heap.size, 2, none⟩ = some (.bool pr) := bd3.cells 2; have y3 : W3.cell? ⟨w.heap.size, 3, none⟩ = some (.bool he) := bd3.cells 3; have y4 : W3.cell? ⟨w.heap.size, 4, none⟩ = some (.slice B1 es.length k1) := bd3.cells 4; have y5 : W3.cell? ⟨w.heap.size, 5, none⟩ = some (.slice B2 us.length k2) := bd3.cells 5) | (refine wpList_store_newG rfl 24 (.tmp 2) (.tmp 11) rfl rfl (w.heap.size + 1) #[.int .i64 o, .int .i64 g, .bool pr, .bool he, .slice B1 es.length k1, .slice B2 us.length k2] rfl rfl 24 _ br3 (by kernel_rfl) (by kernel_rfl) (by kernel_rfl) ?_; intro W4 g4 br4 keep4; clear y0 y1 y2 y3 y4 y5))
   have hb4 := g4.belowAt (g3.belowAt (g2.belowAt hbX (Nat.le_refl _)) (Nat.le_refl _)) (by omega)
   have hs0 : W0.heap.size = w.heap.size + 1 + 1 := by rw [HW0.out]; simp only [World.size_alloc]
   have o1 := ownsRow_grw (ownsRow_grw (ownsRow_grw HO1.out g2 (by omega)) g3 (by omega)) g4 (by omega)
   have o2 := ownsRow_grw (ownsRow_grw (ownsRow_grw HO2.out g2 (by omega)) g3 (by omega)) g4 (by omega)
   exact bodyPost_ret (results_cell1 Tryz.results12 _ W4 (w.heap.size + 1) 24 _ _ rfl br4 Tryz.underlying24 rfl (by kernel_rfl)) rfl ⟨B1, B2, k1, k2, rfl, ownsRow_mono o1 (by omega), ownsRow_mono o2 (by omega), hb4⟩
def DscW (B : Nat) (d : DscP) (_ : Act) (v : Value) (X : World) : Prop := ∃ B1 B2 k1 k2, v = dscV d B1 B2 k1 k2 ∧ X.ownsRow B 111 4 (.slice B1 d.es.length k1) d.es.length (acesV d.es) ∧ X.ownsRow B 111 4 (.slice B2 d.us.length k2) d.us.length (acesV d.us)
def IntsW (B : Nat) (l : List Int) (_ : Act) (v : Value) (X : World) : Prop := ∃ A c, v = .slice A l.length c ∧ X.ownsRow B 3 1 (.slice A l.length c) l.length (l.map (.int .i64))
def DifW (B : Nat) (t : TokP) (vs : List Value) (_ : Act) (v : Value) (X : World) : Prop := ∃ A c, v = .tuple (tokV t A c :: vs).toArray ∧ X.ownsRow B 3 1 (.slice A t.gs.length c) t.gs.length (t.gs.map (.int .i64))
def TokW (B : Nat) (t : TokP) (_ : Act) (v : Value) (X : World) : Prop := ∃ A c, v = tokV t A c ∧ X.ownsRow B 3 1 (.slice A t.gs.length c) t.gs.length (t.gs.map (.int .i64))
theorem DscW.stable {B : Nat} {d : DscP} (g : Act) (v : Value) (X X' : World) (h : DscW B d g v X) (hb : Below X.heap.size X X') : DscW B d g v X' := by
 obtain ⟨B1, B2, k1, k2, h1, h2, h3⟩ := h; exact ⟨B1, B2, k1, k2, h1, ownsRow_below h2 hb, ownsRow_below h3 hb⟩
theorem DscW.grw {B N : Nat} {d : DscP} (g : Act) (v : Value) (X X' : World) (h : DscW B d g v X) (hX : Grw (BoxesO N 27) X X') : DscW B d g v X' := by
 obtain ⟨B1, B2, k1, k2, h1, h2, h3⟩ := h; exact ⟨B1, B2, k1, k2, h1, ownsRow_boxes h2 hX (by decide), ownsRow_boxes h3 hX (by decide)⟩
theorem IntsW.stable {B : Nat} {l : List Int} (g : Act) (v : Value) (X X' : World) (h : IntsW B l g v X) (hb : Below X.heap.size X X') : IntsW B l g v X' := by
 obtain ⟨A, c, h1, h2⟩ := h; exact ⟨A, c, h1, ownsRow_below h2 hb⟩
theorem IntsW.grw {B N : Nat} {l : List Int} (g : Act) (v : Value) (X X' : World) (h : IntsW B l g v X) (hX : Grw (BoxesO N 27) X X') : IntsW B l g v X' := by
 obtain ⟨A, c, h1, h2⟩ := h; exact ⟨A, c, h1, ownsRow_boxes h2 hX (by decide)⟩
theorem DifW.stable {B : Nat} {t : TokP} {vs : List Value} (g : Act) (v : Value) (X X' : World) (h : DifW B t vs g v X) (hb : Below X.heap.size X X') : DifW B t vs g v X' := by
 obtain ⟨A, c, h1, h2⟩ := h; exact ⟨A, c, h1, ownsRow_below h2 hb⟩
theorem DifW.grw {B N : Nat} {t : TokP} {vs : List Value} (g : Act) (v : Value) (X X' : World) (h : DifW B t vs g v X) (hX : Grw (BoxesO N 27) X X') : DifW B t vs g v X' := by
 obtain ⟨A, c, h1, h2⟩ := h; exact ⟨A, c, h1, ownsRow_boxes h2 hX (by decide)⟩
theorem TokW.stable {B : Nat} {t : TokP} (g : Act) (v : Value) (X X' : World) (h : TokW B t g v X) (hb : Below X.heap.size X X') : TokW B t g v X' := by
 obtain ⟨A, c, h1, h2⟩ := h; exact ⟨A, c, h1, ownsRow_below h2 hb⟩
theorem TokW.grw {B N : Nat} {t : TokP} (g : Act) (v : Value) (X X' : World) (h : TokW B t g v X) (hX : Grw (BoxesO N 27) X X') : TokW B t g v X' := by
 obtain ⟨A, c, h1, h2⟩ := h; exact ⟨A, c, h1, ownsRow_boxes h2 hX (by decide)⟩
end Go.Proofs.YtanicpgmbhfipaaGreatDoor
