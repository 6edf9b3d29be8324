/-
  Chapter 21, plain laws: the patches between two pages, applied, give the second one; they are apart; LSNs; redoing.
-/
import Derived.Test.YtgmipogidmcilaaDoorOp5
namespace Go.Proofs.YtgmipogidmcilaaDoor
set_option linter.unusedVariables false
set_option linter.unusedSimpArgs false
open Go.RowKit

/-! ### what the patches do -/
theorem skipTo_same (a b : ByteArray) : ∀ f k i, k ≤ i → i < skipTo a b f k → dif a b i = false
  | 0, k, i, h1, h2 => by unfold skipTo at h2; omega
  | f + 1, k, i, h1, h2 => by
    rw [skipTo_succ] at h2
    by_cases h : dif a b k = true
    · rw [if_pos h] at h2; omega
    · rw [if_neg h] at h2
      by_cases e : i = k
      · subst e; simpa using h
      · exact skipTo_same a b f (k + 1) i (by omega) h2
theorem patSkip_eq (a b : ByteArray) (k i : Nat) (h1 : k ≤ i) (h2 : i < patSkip a b k) : dif a b i = false := skipTo_same a b _ k i h1 h2
/-- a page that has b's bytes up to k, and a's from there on -/
def mixL (a b : List UInt8) (k : Nat) : List UInt8 := b.take k ++ a.drop k
theorem mixL_get (a b : List UInt8) (k i : Nat) (hl : a.length = b.length) : (mixL a b k)[i]? = if i < k then b[i]? else a[i]? := by
  unfold mixL
  by_cases h : i < k
  · rw [if_pos h]
    by_cases h2 : i < b.length
    · rw [List.getElem?_append_left (by rw [List.length_take]; omega), List.getElem?_take, if_pos h]
    · rw [List.getElem?_eq_none (by rw [List.length_append, List.length_take, List.length_drop]; omega), List.getElem?_eq_none (by omega)]
  · rw [if_neg h]
    by_cases h2 : k ≤ b.length
    · rw [List.getElem?_append_right (by rw [List.length_take]; omega), List.length_take, List.getElem?_drop]; congr 1; omega
    · rw [List.getElem?_eq_none (by rw [List.length_append, List.length_take, List.length_drop]; omega), List.getElem?_eq_none (by omega)]
theorem mixL_length (a b : List UInt8) (k : Nat) (hl : a.length = b.length) : (mixL a b k).length = a.length := by
  unfold mixL; rw [List.length_append, List.length_take, List.length_drop]; omega
theorem dif_eq {a b : ByteArray} {i : Nat} (hl : a.size = b.size) (h : dif a b i = false) : (bl a)[i]? = (bl b)[i]? := by
  unfold dif at h
  rw [bne_eq_false_iff_eq, getD_get, getD_get] at h
  by_cases hi : i < a.size
  · have e1 : (bl a)[i]? = some ((bl a)[i]'hi) := List.getElem?_eq_getElem hi
    have e2 : (bl b)[i]? = some ((bl b)[i]'(by rw [bl_length, ← hl]; exact hi)) := List.getElem?_eq_getElem _
    rw [e1, e2] at h ⊢
    exact congrArg some h
  · rw [List.getElem?_eq_none (by rw [bl_length]; omega), List.getElem?_eq_none (by rw [bl_length]; omega)]
theorem mixL_skip {a b : ByteArray} {k s : Nat} (hl : a.size = b.size) (hks : k ≤ s) (h : ∀ i, k ≤ i → i < s → dif a b i = false) : mixL (bl a) (bl b) k = mixL (bl a) (bl b) s := by
  apply List.ext_getElem?
  intro i
  rw [mixL_get _ _ _ _ hl, mixL_get _ _ _ _ hl]
  by_cases h1 : i < k
  · rw [if_pos h1, if_pos (by omega)]
  · rw [if_neg h1]
    by_cases h2 : i < s
    · rw [if_pos h2, dif_eq hl (h i (by omega) h2)]
    · rw [if_neg h2]
theorem extract_len (a : ByteArray) (s e : Nat) (he : e ≤ a.size) : (a.extract s e).size = e - s := by rw [ByteArray.size_extract]; omega
theorem patOp_ok {a b : ByteArray} {s e : Nat} (ha : a.size = 512) (hb : b.size = 512) (h1 : s < e) (h2 : e ≤ 512) (h3 : e ≤ s + 200) : opOK (patOp a b s e) := by
  have l1 := extract_len a s e (by omega)
  have l2 := extract_len b s e (by omega)
  unfold opOK patOp
  dsimp only
  right; left
  refine ⟨rfl, rfl, rfl, by omega, by omega, by omega, by omega, by omega⟩
theorem patOp_fit {a b q : ByteArray} {s e : Nat} (ha : a.size = 512) (hb : b.size = 512) (h1 : s < e) (h2 : e ≤ 512) (hq : bl q = mixL (bl a) (bl b) s) : opFit q (patOp a b s e) = true := by
  have l1 := extract_len a s e (by omega)
  show (((bl q).drop s).take (a.extract s e).size == bl (a.extract s e)) = true
  rw [beq_iff_eq, l1, hq, bl_extract]
  apply List.ext_getElem?
  intro i
  by_cases h : i < e - s
  · rw [List.getElem?_take, if_pos h, List.getElem?_drop, mixL_get _ _ _ _ (by rw [bl_length, bl_length, ha, hb]), if_neg (by omega), List.getElem?_drop, List.getElem?_take, if_pos (by omega)]
  · rw [List.getElem?_take, if_neg h, List.getElem?_drop, List.getElem?_take, if_neg (by omega)]
theorem patOp_do {a b q : ByteArray} {s e : Nat} (ha : a.size = 512) (hb : b.size = 512) (h1 : s < e) (h2 : e ≤ 512) (hq : bl q = mixL (bl a) (bl b) s) : bl (opDo q (patOp a b s e)) = mixL (bl a) (bl b) e := by
  have l2 := extract_len b s e (by omega)
  have hl : (bl a).length = (bl b).length := by rw [bl_length, bl_length, ha, hb]
  have la : (bl a).length = 512 := ha
  have lb : (bl b).length = 512 := hb
  show bl (patS q s (b.extract s e)) = _
  rw [bl_patS, l2, hq, bl_extract]
  have q1 : (mixL (bl a) (bl b) s).take s = (bl b).take s := by
    unfold mixL
    rw [List.take_append_of_le_length (by rw [List.length_take]; omega), List.take_of_length_le (by rw [List.length_take]; omega)]
  have q2 : (mixL (bl a) (bl b) s).drop (s + (e - s)) = (bl a).drop e := by
    apply List.ext_getElem?
    intro i
    rw [List.getElem?_drop, mixL_get _ _ _ _ hl, if_neg (by omega), List.getElem?_drop]
    congr 1; omega
  rw [q1, q2]
  unfold mixL
  congr 1
  apply List.ext_getElem?
  intro i
  by_cases h : i < s
  · rw [List.getElem?_append_left (by rw [List.length_take]; omega), List.getElem?_take, List.getElem?_take, if_pos h, if_pos (by omega)]
  · rw [List.getElem?_append_right (by rw [List.length_take]; omega), List.length_take, List.getElem?_drop, List.getElem?_take, List.getElem?_take]
    rw [show s + (i - min s (bl b).length) = i by omega]

/-- the patches from k on, on a page that is b up to k -/
theorem betL_all {a b : ByteArray} (ha : a.size = 512) (hb : b.size = 512) : ∀ (f k i : Nat) (q : ByteArray), k ≤ 512 → 512 < k + f → bl q = mixL (bl a) (bl b) k →
    opAllG q i (betL a b f k) = (b, i + (betL a b f k).length, 0)
  | 0, k, i, q, h1, h2, hq => by omega
  | f + 1, k, i, q, h1, h2, hq => by
    have hsb := patSkip_bd a b k h1
    have hmix := mixL_skip (a := a) (b := b) (k := k) (s := patSkip a b k) (by rw [ha, hb]) hsb.1 (patSkip_eq a b k)
    unfold betL
    by_cases h : patSkip a b k = 512
    · rw [if_pos h]
      have e : q = b := by
        apply bl_inj
        rw [hq, hmix, h]
        unfold mixL
        rw [List.take_of_length_le (by rw [bl_length, hb]; omega), List.drop_of_length_le (by rw [bl_length, ha]; omega), List.append_nil]
      rw [e]; rfl
    · rw [if_neg h]
      have he := patEnd_bd a b (patSkip a b k) (by omega)
      have hok := patOp_ok (a := a) (b := b) ha hb he.1 he.2.1 he.2.2
      have hq' := hq.trans hmix
      have hfit := patOp_fit (a := a) (b := b) ha hb he.1 he.2.1 hq'
      have hdo := patOp_do (a := a) (b := b) ha hb he.1 he.2.1 hq'
      have htry : opTry q (patOp a b (patSkip a b k) (patEnd a b (patSkip a b k))) = (opDo q (patOp a b (patSkip a b k) (patEnd a b (patSkip a b k))), 0) := by
        unfold opTry; rw [if_neg (fun g => g ((opE_iff _).2 hok)), if_pos hfit]
      show (if (opTry q _).2 ≠ 0 then _ else opAllG (opTry q _).1 (i + 1) _) = _
      rw [htry, if_neg (fun g => g rfl)]
      dsimp only
      rw [betL_all ha hb f _ (i + 1) _ he.2.1 (by omega) hdo, List.length_cons]
      congr 2
      omega
theorem between_all {a b : ByteArray} (ha : a.size = 512) (hb : b.size = 512) : opAllG a 0 (between a b) = (b, (between a b).length, 0) := by
  have h := betL_all ha hb 513 0 0 a (Nat.zero_le _) (by omega) (by unfold mixL; simp)
  rw [Nat.zero_add] at h
  exact h
/-- the patches: each is valid, behind k, and they do not overlap -/
theorem betL_mem {a b : ByteArray} (ha : a.size = 512) (hb : b.size = 512) : ∀ (f k : Nat), k ≤ 512 → (∀ x ∈ betL a b f k, opOK x ∧ (k : Int) ≤ (opTch x).1 ∧ x.o.size ≤ 200 ∧ x.n.size ≤ 200) ∧ (betL a b f k).Pairwise fun x y => (opTch x).2 ≤ (opTch y).1
  | 0, k, _ => ⟨fun x hx => absurd hx (List.not_mem_nil), List.Pairwise.nil⟩
  | f + 1, k, hk => by
    have hsb := patSkip_bd a b k hk
    unfold betL
    by_cases h : patSkip a b k = 512
    · rw [if_pos h]; exact ⟨fun x hx => absurd hx (List.not_mem_nil), List.Pairwise.nil⟩
    · rw [if_neg h]
      have he := patEnd_bd a b (patSkip a b k) (by omega)
      have hok := patOp_ok (a := a) (b := b) ha hb he.1 he.2.1 he.2.2
      obtain ⟨i1, i2⟩ := betL_mem ha hb f (patEnd a b (patSkip a b k)) he.2.1
      have t1 : (opTch (patOp a b (patSkip a b k) (patEnd a b (patSkip a b k)))) = ((patSkip a b k : Int), (patSkip a b k : Int) + (a.extract (patSkip a b k) (patEnd a b (patSkip a b k))).size) := rfl
      have l1 := extract_len a (patSkip a b k) (patEnd a b (patSkip a b k)) (by omega)
      have l2 := extract_len b (patSkip a b k) (patEnd a b (patSkip a b k)) (by omega)
      refine ⟨fun x hx => ?_, List.pairwise_cons.2 ⟨fun y hy => ?_, i2⟩⟩
      · rcases List.mem_cons.1 hx with rfl | hx
        · refine ⟨hok, ?_, ?_, ?_⟩
          · rw [t1]; dsimp only; omega
          · show (a.extract _ _).size ≤ 200; omega
          · show (b.extract _ _).size ≤ 200; omega
        · obtain ⟨a1, a2, a3⟩ := i1 x hx
          exact ⟨a1, by omega, a3⟩
      · have := (i1 y hy).2.1
        rw [t1]; dsimp only; omega
theorem between_mem {a b : ByteArray} (ha : a.size = 512) (hb : b.size = 512) {x : Op} (hx : x ∈ between a b) : opOK x ∧ x.o.size ≤ 200 ∧ x.n.size ≤ 200 :=
  let h := (betL_mem ha hb 513 0 (Nat.zero_le _)).1 x hx
  ⟨h.1, h.2.2⟩
theorem apart_of_le {x y : Op} (h : (opTch x).2 ≤ (opTch y).1) : opApart y x = true := by
  unfold opApart
  rw [decide_eq_true_eq]
  omega
theorem between_apart {a b : ByteArray} (ha : a.size = 512) (hb : b.size = 512) (i k : Nat) (hi : i < (between a b).length) (hk : k < i) : opApart ((between a b)[i]) ((between a b)[k]'(by omega)) = true :=
  apart_of_le (List.pairwise_iff_getElem.1 (betL_mem ha hb 513 0 (Nat.zero_le _)).2 k i (by show k < (between a b).length; omega) hi hk)

/-! ### the number of a page -/
def lsnP (p : ByteArray) : Int := num (((bl p).drop 8).take 4) % 2147483648
def lsnW (p : ByteArray) (n : Int) : ByteArray := patS p 8 (bs (lit n 4))
theorem lsnW_size {p : ByteArray} {n : Int} (hp : p.size = 512) : (lsnW p n).size = 512 := by
  have h1 : (bs (lit n 4)).size = 4 := by rw [bs_size, lit_length]
  rw [← bl_length]; unfold lsnW
  rw [bl_patS, List.length_append, List.length_append, List.length_take, List.length_drop, bl_length, bl_length, h1, hp]; rfl
theorem lsn_with {p : ByteArray} {n : Int} (hp : p.size = 512) (h0 : 0 ≤ n) (h1 : n < 2147483648) : lsnP (lsnW p n) = n := by
  unfold lsnP lsnW
  rw [bl_patS, bl_bs]
  have hl : ((bl p).take 8).length = 8 := by rw [List.length_take, bl_length, hp]; rfl
  have e : (((bl p).take 8 ++ lit n 4 ++ (bl p).drop (8 + (bs (lit n 4)).size)).drop 8).take 4 = lit n 4 := by
    rw [List.append_assoc, List.drop_append_of_le_length (by omega), List.drop_of_length_le (by omega), List.nil_append, List.take_append_of_le_length (by rw [lit_length]; omega), List.take_of_length_le (by rw [lit_length]; omega)]
  rw [e, num_lit]
  omega
theorem lsnP_bd (p : ByteArray) : 0 ≤ lsnP p ∧ lsnP p < 2147483648 := by unfold lsnP; omega

/-! ### redoing -/
def lsnE' (n : Int) : Int := unl (inB n 1 2147483647) 2
/-- a page after an operation was redone, whether it changed, an error -/
def redo (p : ByteArray) (plain : Bool) (n : Int) (x : Op) : ByteArray × Bool × Int :=
  if firstE [pageE p, lsnE' n, opE x] ≠ 0 then (⟨#[]⟩, false, firstE [pageE p, lsnE' n, opE x])
  else if plain then (if x.k = 2 ∨ x.k = 3 then (⟨#[]⟩, false, 15) else (opDo p x, !(bl (opDo p x) == bl p), 0))
  else if n ≤ lsnP p then (p, false, 0)
  else if opFit p x then (lsnW (opDo p x) n, true, 0) else (⟨#[]⟩, false, 13)

theorem opDo_again {p : ByteArray} {x : Op} (hp : p.size = 512) (h : opOK x) (hk : ¬ (x.k = 2 ∨ x.k = 3)) : opDo (opDo p x) x = opDo p x := by
  have r := op_rep hp h
  have r2 := op_rep (opDo_size hp h) h
  have hpl : (bl p).length = 512 := by rw [bl_length]; exact hp
  have lx : tHi x ≤ (bl p).length := by rw [hpl]; exact r.in'
  have sx := subL_length (bl p) (tLo x) _ lx
  have mx := (r.mid _ sx).trans sx
  apply bl_inj
  rw [r2.do', r.do', sub_putL _ _ _ _ r.le lx mx, put_putL _ _ _ _ _ r.le lx mx ((r.mid _ mx).trans mx)]
  congr 1
  obtain ⟨k, a, e, c, o, n⟩ := x
  unfold opOK at h
  dsimp only at h hk
  rcases h with ⟨rfl, rfl, rfl, rfl, ho, hn⟩ | ⟨rfl, rfl, rfl, hs, h1, h2, h3, h4⟩ | ⟨rfl, rfl, ho, h1, h2, h3, h4, h5⟩ | ⟨rfl, rfl, hn, h1, h2, h3, h4, h5⟩ | ⟨hk', rfl, ho, hn, h1, h2, h3, h4⟩ | ⟨rfl, rfl, rfl, rfl, ho, hn⟩
  · rfl
  · rfl
  · exact absurd (.inl rfl) hk
  · exact absurd (.inr rfl) hk
  · obtain ⟨A, rfl⟩ := Int.eq_ofNat_of_zero_le h1
    obtain ⟨C, rfl⟩ := Int.eq_ofNat_of_zero_le (show 0 ≤ c by omega)
    rcases hk' with rfl | rfl
    · have hb : (A - 8 * ((A : Int) / 8).toNat) + C ≤ 8 * (subL (bl p) (tLo ⟨4, A, 0, C, o, n⟩) (tHi ⟨4, A, 0, C, o, n⟩)).length := by
        rw [sx]
        show _ ≤ 8 * ((((A : Int) + C - 1) / 8 + 1).toNat - ((A : Int) / 8).toNat)
        omega
      exact bitsPut_again _ _ _ true hb
    · have hb : (A - 8 * ((A : Int) / 8).toNat) + C ≤ 8 * (subL (bl p) (tLo ⟨5, A, 0, C, o, n⟩) (tHi ⟨5, A, 0, C, o, n⟩)).length := by
        rw [sx]
        show _ ≤ 8 * ((((A : Int) + C - 1) / 8 + 1).toNat - ((A : Int) / 8).toNat)
        omega
      exact bitsPut_again _ _ _ false hb
  · rfl
theorem redo_val {p : ByteArray} {plain : Bool} {n : Int} {x : Op} (hp : p.size = 512) (hn : inB n 1 2147483647 = true) (hx : opE x = 0) :
    redo p plain n x = if plain then (if x.k = 2 ∨ x.k = 3 then (⟨#[]⟩, false, 15) else (opDo p x, !(bl (opDo p x) == bl p), 0)) else if n ≤ lsnP p then (p, false, 0) else if opFit p x then (lsnW (opDo p x) n, true, 0) else (⟨#[]⟩, false, 13) := by
  have e1 : lsnE' n = 0 := by unfold lsnE'; rw [hn]; rfl
  have e3 : pageE p = 0 := by unfold pageE; rw [hp]; rfl
  have e2 : firstE [pageE p, lsnE' n, opE x] = 0 := by rw [e3, e1, hx]; rfl
  unfold redo
  rw [e2, if_neg (fun g => g rfl)]
/-- redone twice -/
theorem redo_twice {p : ByteArray} {plain : Bool} {n : Int} {x : Op} (hp : p.size = 512) (hn : inB n 1 2147483647 = true) (hx : opE x = 0) (h : (redo p plain n x).2.2 = 0) :
    redo (redo p plain n x).1 plain n x = ((redo p plain n x).1, false, 0) ∧ (redo p plain n x).1.size = 512 := by
  have hok := (opE_iff x).1 hx
  have hn' := inB_true.1 hn
  have hd := opDo_size hp hok
  rw [redo_val hp hn hx] at h ⊢
  cases plain
  · rw [if_neg (by simp)] at h ⊢
    by_cases h1 : n ≤ lsnP p
    · rw [if_pos h1]
      dsimp only
      rw [redo_val hp hn hx, if_neg (by simp), if_pos h1]
      exact ⟨rfl, hp⟩
    · rw [if_neg h1] at h ⊢
      cases hf : opFit p x
      · rw [hf] at h; simp at h
      · rw [if_pos rfl]
        dsimp only
        rw [redo_val (lsnW_size hd) hn hx, if_neg (by simp), if_pos (by rw [lsn_with hd (by omega) (by omega)]; omega)]
        exact ⟨rfl, lsnW_size hd⟩
  · rw [if_pos rfl] at h ⊢
    by_cases hk : x.k = 2 ∨ x.k = 3
    · rw [if_pos hk] at h; simp at h
    · rw [if_neg hk]
      dsimp only
      rw [redo_val hd hn hx, if_pos rfl, if_neg hk, opDo_again hp hok hk]
      exact ⟨by simp, hd⟩
end Go.Proofs.YtgmipogidmcilaaDoor
