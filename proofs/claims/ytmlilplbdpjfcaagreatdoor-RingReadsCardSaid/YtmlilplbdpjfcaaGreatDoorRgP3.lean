/-
  Chapter 20: plain words: the reference's way of reading is the program's. No program in sight.
-/
import Derived.Test.YtmlilplbdpjfcaaGreatDoorRgPA
namespace Go.Proofs.YtmlilplbdpjfcaaGreatDoor
set_option linter.unusedVariables false
set_option linter.unusedSimpArgs false
open Go.RowKit
theorem zeroL_eq (l : List UInt8) : zeroL l = true ↔ l = zerosL l.length := by
  unfold zeroL zerosL
  rw [List.all_eq_true, List.eq_replicate_iff]
  exact ⟨fun h => ⟨rfl, fun b hb => by simpa using h b hb⟩, fun h b hb => by simpa using h.2 b hb⟩
theorem zeroL_zeros (n : Nat) : zeroL (zerosL n) = true := (zeroL_eq _).2 (by rw [zerosL_length])
theorem nAt_lit {l : List UInt8} {a c : Nat} (h : a + c ≤ l.length) : lit (nAt l a c) c = (l.drop a).take c := by
  have h1 : ((l.drop a).take c).length = c := by rw [List.length_take, List.length_drop]; omega
  have := lit_num ((l.drop a).take c)
  rw [h1] at this
  exact this
theorem split_at (l : List UInt8) (a b : Nat) : l.drop a = (l.drop a).take b ++ l.drop (a + b) := by
  rw [← List.drop_drop, List.take_append_drop]
def rtB (b : List UInt8) (pg : Int) (top q : Int) : Bool :=
  (opL b).take 4 == [82, 67, 82, 68] && zeroL (((opL b).drop 4).take 4) && nAt (opL b) 8 4 == q && decide (nAt (opL b) 12 2 ≤ 448) && inB (nAt (opL b) 14 4) 1 top && zeroL (((opL b).drop 18).take 46)
   && zeroL (((opL b).drop 64).drop (nAt (opL b) 12 2).toNat) && usnL b == usnP q (nAt (opL b) 14 4) pg
theorem pgH_parts {o : List UInt8} (ho : o.length = 512) (h1 : o.take 4 = [82, 67, 82, 68]) (h2 : zeroL ((o.drop 4).take 4) = true) (h3 : zeroL ((o.drop 18).take 46) = true) :
    o = pgH (nAt o 8 4) (nAt o 12 2) (nAt o 14 4) (o.drop 64) := by
  unfold pgH
  have e1 := (zeroL_eq _).1 h2
  have e2 := (zeroL_eq _).1 h3
  have l1 : ((o.drop 4).take 4).length = 4 := by rw [List.length_take, List.length_drop]; omega
  have l2 : ((o.drop 18).take 46).length = 46 := by rw [List.length_take, List.length_drop]; omega
  rw [l1] at e1
  rw [l2] at e2
  rw [nAt_lit (by omega), nAt_lit (by omega), nAt_lit (by omega), ← h1, ← e1, ← e2]
  conv => lhs; rw [← List.take_append_drop 4 o, split_at o 4 4, split_at o 8 4, split_at o 12 2, split_at o 14 4, split_at o 18 46]
theorem nAt_app (x y z : List UInt8) : nAt (x ++ (y ++ z)) x.length y.length = num y := by
  unfold nAt; rw [List.drop_left, List.take_left]
theorem pgH_read (q u s : Int) (c : List UInt8) : (pgH q u s c).take 4 = [82, 67, 82, 68] ∧ ((pgH q u s c).drop 4).take 4 = zerosL 4 ∧ nAt (pgH q u s c) 8 4 = num (lit q 4) ∧ nAt (pgH q u s c) 12 2 = num (lit u 2) ∧
    nAt (pgH q u s c) 14 4 = num (lit s 4) ∧ ((pgH q u s c).drop 18).take 46 = zerosL 46 ∧ (pgH q u s c).drop 64 = c := by
  have e1 : pgH q u s c = ([82, 67, 82, 68] ++ zerosL 4) ++ (lit q 4 ++ (lit u 2 ++ (lit s 4 ++ (zerosL 46 ++ c)))) := by unfold pgH; simp only [List.append_assoc]
  have e2 : pgH q u s c = ([82, 67, 82, 68] ++ (zerosL 4 ++ lit q 4)) ++ (lit u 2 ++ (lit s 4 ++ (zerosL 46 ++ c))) := by unfold pgH; simp only [List.append_assoc]
  have e3 : pgH q u s c = ([82, 67, 82, 68] ++ (zerosL 4 ++ (lit q 4 ++ lit u 2))) ++ (lit s 4 ++ (zerosL 46 ++ c)) := by unfold pgH; simp only [List.append_assoc]
  have e4 : pgH q u s c = ([82, 67, 82, 68] ++ (zerosL 4 ++ (lit q 4 ++ (lit u 2 ++ lit s 4)))) ++ (zerosL 46 ++ c) := by unfold pgH; simp only [List.append_assoc]
  have e5 : pgH q u s c = ([82, 67, 82, 68] ++ (zerosL 4 ++ (lit q 4 ++ (lit u 2 ++ (lit s 4 ++ zerosL 46))))) ++ c := by unfold pgH; simp only [List.append_assoc]
  refine ⟨rfl, ?_, ?_, ?_, ?_, ?_, ?_⟩
  · show (zerosL 4 ++ _ : List UInt8).take 4 = _
    rw [List.take_left' (zerosL_length 4)]
  · have := nAt_app ([82, 67, 82, 68] ++ zerosL 4) (lit q 4) (lit u 2 ++ (lit s 4 ++ (zerosL 46 ++ c)))
    rw [← e1, lit_length] at this
    exact this
  · have := nAt_app ([82, 67, 82, 68] ++ (zerosL 4 ++ lit q 4)) (lit u 2) (lit s 4 ++ (zerosL 46 ++ c))
    rw [← e2, lit_length] at this
    exact this
  · have := nAt_app ([82, 67, 82, 68] ++ (zerosL 4 ++ (lit q 4 ++ lit u 2))) (lit s 4) (zerosL 46 ++ c)
    rw [← e3, lit_length] at this
    exact this
  · rw [e4, List.drop_left' (by simp [lit_length, zerosL_length]), List.take_left' (zerosL_length 46)]
  · rw [e5, List.drop_left' (by simp [lit_length, zerosL_length])]
theorem pgH_zero (q u s : Int) (c : List UInt8) (i : Nat) (h1 : 18 ≤ i) (h2 : i < 64) : (pgH q u s c).getD i 0 = 0 := by
  have e4 : pgH q u s c = ([82, 67, 82, 68] ++ (zerosL 4 ++ (lit q 4 ++ (lit u 2 ++ lit s 4)))) ++ (zerosL 46 ++ c) := by unfold pgH; simp only [List.append_assoc]
  have hl : ([82, 67, 82, 68] ++ (zerosL 4 ++ (lit q 4 ++ (lit u 2 ++ lit s 4))) : List UInt8).length = 18 := by simp [lit_length, zerosL_length]
  rw [e4, List.getD_eq_getElem?_getD, List.getElem?_append_right (by omega), hl, List.getElem?_append_left (by rw [zerosL_length]; omega), ← List.getD_eq_getElem?_getD, zeros_getD]
theorem rt_pg {b : List UInt8} (hb : b.length = 512) (ho : opB b = true) (pg top : Int) (q : Nat) (hq : q < 4294967296) (htop : top < 4294967296) :
    rtB b pg top q = (inB (nAt (opL b) 12 2) 0 448 && inB (nAt (opL b) 14 4) 1 top && (pageL q (nAt (opL b) 14 4) pg (((opL b).drop 64).take (nAt (opL b) 12 2).toNat) == b)) := by
  have hol := opL_length hb
  rw [Bool.eq_iff_iff]
  unfold rtB
  simp only [Bool.and_eq_true, beq_iff_eq, decide_eq_true_eq, inB_true]
  have hu := nAt_bd (opL b) 12 2
  constructor
  · rintro ⟨⟨⟨⟨⟨⟨⟨h1, h2⟩, h3⟩, h4⟩, h5⟩, h6⟩, h7⟩, h8⟩
    refine ⟨⟨⟨hu.1, h4⟩, h5⟩, ?_⟩
    have hp := pgH_parts hol h1 h2 h6
    unfold pageL
    have hlen : (((opL b).drop 64).take (nAt (opL b) 12 2).toNat).length = (nAt (opL b) 12 2).toNat := by rw [List.length_take, List.length_drop]; omega
    have hz := (zeroL_eq _).1 h7
    have hzl : (((opL b).drop 64).drop (nAt (opL b) 12 2).toNat).length = 448 - (nAt (opL b) 12 2).toNat := by rw [List.length_drop, List.length_drop]; omega
    rw [hzl] at hz
    rw [hlen, ← hz, List.take_append_drop, Int.toNat_of_nonneg hu.1, ← h3, ← hp, h3, ← h8]
    exact pr_op hb ho
  · rintro ⟨⟨⟨_, h4⟩, h5⟩, h⟩
    have hlen : (((opL b).drop 64).take (nAt (opL b) 12 2).toNat).length = (nAt (opL b) 12 2).toNat := by rw [List.length_take, List.length_drop]; omega
    obtain ⟨s, hs⟩ : ∃ s, s = nAt (opL b) 14 4 := ⟨_, rfl⟩
    obtain ⟨c, hc⟩ : ∃ c, c = ((opL b).drop 64).take (nAt (opL b) 12 2).toNat := ⟨_, rfl⟩
    have hcl : c.length ≤ 448 := by rw [hc, hlen]; omega
    rw [← hs, ← hc] at h
    unfold pageL at h
    have hH : (pgH q c.length s (c ++ zerosL (448 - c.length))).length = 512 := by rw [pgH_length, List.length_append, zerosL_length]; omega
    have hbd := usnP_bd q s pg
    have e : opL b = pgH q c.length s (c ++ zerosL (448 - c.length)) := by
      rw [← h]
      exact op_pr hH (fun i h1 h2 => pgH_zero _ _ _ _ i (by omega) (by omega))
    have hus : usnL b = usnP q s pg := by rw [← h]; exact usn_pr hH (by omega) hbd.2
    obtain ⟨r1, r2, r3, r4, r5, r6, r7⟩ := pgH_read q c.length s (c ++ zerosL (448 - c.length))
    rw [← e] at r1 r2 r3 r4 r5 r6 r7
    have n1 : num (lit (c.length : Int) 2) = c.length := by rw [num_lit]; omega
    rw [n1] at r4
    refine ⟨⟨⟨⟨⟨⟨⟨r1, by rw [r2]; exact zeroL_zeros _⟩, by rw [r3, num_lit]; omega⟩, h4⟩, h5⟩, by rw [r6]; exact zeroL_zeros _⟩, ?_⟩, by rw [← hs]; exact hus⟩
    rw [r7, r4, Int.toNat_natCast, List.drop_left]
    exact zeroL_zeros _
def rtIn (s : List UInt8) (pg : Nat) (top : Int) (q : Nat) : Option (Int × Int × List UInt8) :=
  if opB (blkL s (2 + q % (pg - 2))) = false then none
  else if rtB (blkL s (2 + q % (pg - 2))) pg top q then some (nAt (opL (blkL s (2 + q % (pg - 2)))) 12 2, nAt (opL (blkL s (2 + q % (pg - 2)))) 14 4, (opL (blkL s (2 + q % (pg - 2)))).drop 64) else none
theorem blkL_length {s : List UInt8} {pg k : Nat} (hs : s.length = 512 * pg) (hk : k < pg) : (blkL s k).length = 512 := by
  unfold blkL
  rw [List.length_take, List.length_drop]
  have : 512 * k + 512 ≤ 512 * pg := by omega
  omega
theorem room_lt {q pg : Nat} (h : 4 ≤ pg) : 2 + q % (pg - 2) < pg := by
  have := Nat.mod_lt q (show 0 < pg - 2 by omega)
  omega
theorem rt_in {s : List UInt8} {pg : Nat} (hs : s.length = 512 * pg) (hpg : 4 ≤ pg) (top : Int) (htop : top < 4294967296) (q : Nat) (hq : q < 4294967296) :
    (match rtIn s pg top q with | none => pgIn s pg top q = none | some (u, t, c) => pgIn s pg top q = some (t, c.take u.toNat) ∧ 0 ≤ u ∧ u ≤ 448 ∧ c.length = 448 ∧ 1 ≤ t ∧ t ≤ top) := by
  have hb := blkL_length hs (room_lt (q := q) hpg)
  unfold rtIn pgIn
  cases ho : opB (blkL s (2 + q % (pg - 2))) with
  | false => rfl
  | true =>
   rw [if_neg (show ¬ (true = false) by simp), if_neg (show ¬ (true = false) by simp), ← rt_pg hb ho pg top q hq htop]
   cases hr : rtB (blkL s (2 + q % (pg - 2))) pg top q with
   | false => rfl
   | true =>
    rw [rt_pg hb ho pg top q hq htop] at hr
    simp only [Bool.and_eq_true, inB_true] at hr
    refine ⟨rfl, hr.1.1.1, hr.1.1.2, ?_, hr.1.2.1, hr.1.2.2⟩
    rw [List.length_drop, opL_length hb]
def tkIn (s : List UInt8) (pg : Nat) (top : Int) : Nat → Nat → Nat → Int → Option (List UInt8 × Int)
  | _, 0, _, own => some ([], own)
  | 0, _ + 1, _, _ => none
  | f + 1, c + 1, at', own =>
   match rtIn s pg top (at' / 448) with
   | none => none
   | some (u, t, b) =>
    if u < ((at' % 448 + min (c + 1) (448 - at' % 448) : Nat) : Int) ∨ (own ≠ 0 ∧ t ≠ own) then none
    else (tkIn s pg top f (c + 1 - min (c + 1) (448 - at' % 448)) (at' + min (c + 1) (448 - at' % 448)) t).map fun l => ((b.drop (at' % 448)).take (min (c + 1) (448 - at' % 448)) ++ l.1, l.2)
theorem tkIn_succ (s : List UInt8) (pg : Nat) (top : Int) (f c at' : Nat) (own : Int) : tkIn s pg top (f + 1) (c + 1) at' own =
    match rtIn s pg top (at' / 448) with
    | none => none
    | some (u, t, b) =>
     if u < ((at' % 448 + min (c + 1) (448 - at' % 448) : Nat) : Int) ∨ (own ≠ 0 ∧ t ≠ own) then none
     else (tkIn s pg top f (c + 1 - min (c + 1) (448 - at' % 448)) (at' + min (c + 1) (448 - at' % 448)) t).map fun l => ((b.drop (at' % 448)).take (min (c + 1) (448 - at' % 448)) ++ l.1, l.2) := rfl
theorem tk_by {s : List UInt8} {pg : Nat} (hs : s.length = 512 * pg) (hpg : 4 ≤ pg) (top : Int) (htop : top < 4294967296) (own : Int) (h0 : own ≠ 0) :
    ∀ (f c at' : Nat), at' + c < 4294967296 → tkIn s pg top f c at' own = (byIn s pg top own f c at').map fun l => (l, own)
  | _, 0, _, _ => by simp [tkIn, byIn]
  | 0, _ + 1, _, _ => by simp [tkIn, byIn]
  | f + 1, c + 1, at', hat => by
    have hrt := rt_in hs hpg top htop (at' / 448) (by omega)
    unfold tkIn byIn
    cases hr : rtIn s pg top (at' / 448) with
    | none =>
     rw [hr] at hrt
     simp only at hrt ⊢
     rw [hrt]; rfl
    | some x =>
     obtain ⟨u, t, b⟩ := x
     rw [hr] at hrt
     simp only at hrt ⊢
     obtain ⟨hp, hu0, hu1, hb, _⟩ := hrt
     rw [hp]
     simp only
     have hlen : (b.take u.toNat).length = u.toNat := by rw [List.length_take, hb]; omega
     rw [hlen]
     obtain ⟨N, hN⟩ := Int.eq_ofNat_of_zero_le hu0
     subst hN
     rw [Int.toNat_natCast] at hlen ⊢
     by_cases ht : t = own
     · subst ht
       by_cases hlt : N < at' % 448 + min (c + 1) (448 - at' % 448)
       · rw [if_pos (Or.inl (by omega)), if_pos (Or.inr hlt)]; rfl
       · rw [if_neg (fun h => h.elim (fun h => hlt (by omega)) (fun h => h.2 rfl)), if_neg (fun h => h.elim (fun h => h rfl) (fun h => hlt h))]
         rw [tk_by hs hpg top htop t h0 f _ _ (by omega)]
         have e : (b.drop (at' % 448)).take (min (c + 1) (448 - at' % 448)) = ((b.take N).drop (at' % 448)).take (min (c + 1) (448 - at' % 448)) := by
           rw [List.drop_take, List.take_take, Nat.min_eq_left (show min (c + 1) (448 - at' % 448) ≤ N - at' % 448 by omega)]
         rw [e]
         cases byIn s pg top t f (c + 1 - min (c + 1) (448 - at' % 448)) (at' + min (c + 1) (448 - at' % 448)) <;> rfl
     · rw [if_pos (Or.inr ⟨h0, ht⟩), if_pos (Or.inl ht)]; rfl
theorem tk_first {s : List UInt8} {pg : Nat} (hs : s.length = 512 * pg) (hpg : 4 ≤ pg) (top : Int) (htop : top < 4294967296) (f c at' : Nat) (hat : at' + c < 4294967296) (hc : 0 < c) (hf : 0 < f) :
    tkIn s pg top f c at' 0 = match pgIn s pg top (at' / 448) with | none => none | some (q, _) => (byIn s pg top q f c at').map fun l => (l, q) := by
  have hrt := rt_in hs hpg top htop (at' / 448) (by omega)
  obtain ⟨f, rfl⟩ : ∃ g, f = g + 1 := ⟨f - 1, by omega⟩
  obtain ⟨c, rfl⟩ : ∃ d, c = d + 1 := ⟨c - 1, by omega⟩
  rw [tkIn_succ]
  cases hr : rtIn s pg top (at' / 448) with
  | none =>
   rw [hr] at hrt
   simp only at hrt ⊢
   rw [hrt]
  | some x =>
   obtain ⟨u, t, b⟩ := x
   rw [hr] at hrt
   simp only at hrt ⊢
   obtain ⟨hp, hu0, hu1, hb, ht1, _⟩ := hrt
   have h2 := tk_by hs hpg top htop t (by omega) (f + 1) (c + 1) at' hat
   rw [hp]
   simp only
   rw [← h2, tkIn_succ]
   rw [hr]
   simp only
   by_cases hlt : u < ((at' % 448 + min (c + 1) (448 - at' % 448) : Nat) : Int)
   · rw [if_pos (Or.inl hlt), if_pos (Or.inl hlt)]
   · rw [if_neg (fun h => h.elim (fun h => hlt h) (fun h => h.1 rfl)), if_neg (fun h => h.elim (fun h => hlt h) (fun h => h.2 rfl))]
theorem by_prefix {s : List UInt8} {pg : Nat} {top q : Int} : ∀ (f c at' : Nat) (l : List UInt8), byIn s pg top q f c at' = some l → l.length = c → ∀ d, d ≤ c → byIn s pg top q f d at' = some (l.take d)
  | f, c, at', l, h, hl, 0, _ => by cases f <;> simp [byIn]
  | 0, 0, _, _, _, _, d + 1, hd => by omega
  | 0, c + 1, at', l, h, _, d + 1, _ => by simp [byIn] at h
  | f + 1, 0, _, _, _, _, d + 1, hd => by omega
  | f + 1, c + 1, at', l, h, hl, d + 1, hd => by
    unfold byIn at h ⊢
    cases hp : pgIn s pg top (at' / 448) with
    | none => rw [hp] at h; simp at h
    | some x =>
     obtain ⟨q', b⟩ := x
     rw [hp] at h
     simp only at h ⊢
     split at h
     · cases h
     · rename_i hc
       have hc' : q' = q ∧ at' % 448 + min (c + 1) (448 - at' % 448) ≤ b.length := ⟨Classical.not_not.1 fun h => hc (.inl h), Nat.le_of_not_lt fun h => hc (.inr h)⟩
       rw [if_neg (fun h => h.elim (fun h => h hc'.1) (fun h => by have := hc'.2; omega))]
       rw [Option.map_eq_some_iff] at h
       obtain ⟨m, hm, rfl⟩ := h
       have hml : ((b.drop (at' % 448)).take (min (c + 1) (448 - at' % 448))).length = min (c + 1) (448 - at' % 448) := by
         rw [List.length_take, List.length_drop]; have := hc'.2; omega
       rw [List.length_append, hml] at hl
       by_cases hk : d + 1 ≤ 448 - at' % 448
       · rw [Nat.min_eq_left hk, show d + 1 - (d + 1) = 0 by omega]
         have : byIn s pg top q f 0 (at' + (d + 1)) = some [] := by cases f <;> rfl
         rw [this, Option.map_some, List.append_nil, List.take_append_of_le_length (by rw [hml]; omega), List.take_take, Nat.min_eq_left (by omega)]
       · have e : min (d + 1) (448 - at' % 448) = min (c + 1) (448 - at' % 448) := by omega
         rw [e, by_prefix f _ _ m hm (by omega) (d + 1 - min (c + 1) (448 - at' % 448)) (by omega), Option.map_some]
         rw [List.take_append, hml, List.take_of_length_le (l := (b.drop (at' % 448)).take (min (c + 1) (448 - at' % 448))) (by rw [hml]; omega)]
theorem by_length {s : List UInt8} {pg : Nat} {top q : Int} : ∀ (f c at' : Nat) (l : List UInt8), byIn s pg top q f c at' = some l → l.length = c
  | f, 0, at', l, h => by
    have : byIn s pg top q f 0 at' = some [] := by cases f <;> rfl
    rw [this] at h; cases h; rfl
  | 0, c + 1, at', l, h => by simp [byIn] at h
  | f + 1, c + 1, at', l, h => by
    unfold byIn at h
    cases hp : pgIn s pg top (at' / 448) with
    | none => rw [hp] at h; simp at h
    | some x =>
     obtain ⟨q', b⟩ := x
     rw [hp] at h
     simp only at h
     split at h
     · cases h
     · rename_i hc
       have hc' : at' % 448 + min (c + 1) (448 - at' % 448) ≤ b.length := Nat.le_of_not_lt fun h => hc (.inr h)
       rw [Option.map_eq_some_iff] at h
       obtain ⟨m, hm, rfl⟩ := h
       rw [List.length_append, List.length_take, List.length_drop, by_length f _ _ m hm]
       omega
theorem szR_bd {n : Int} (h0 : 0 ≤ n) : 12 + n ≤ szR n ∧ szR n ≤ n + 19 ∧ 0 ≤ szR n ∧ szR n % 8 = 0 := by unfold szR; omega
theorem lit_inj4 {l : List UInt8} {a : Nat} (h : a + 4 ≤ l.length) {n : Int} (h0 : 0 ≤ n) (h1 : n < 4294967296) : lit n 4 = (l.drop a).take 4 ↔ nAt l a 4 = n := by
  constructor
  · intro e
    unfold nAt
    rw [← e, num_lit]; omega
  · rintro rfl
    exact nAt_lit h
theorem sumL_bd : ∀ (l : List UInt8) (m : Int), 0 ≤ m → m < 2147483648 → 0 ≤ sumL l m ∧ sumL l m < 2147483648
  | [], m, h0, h1 => ⟨h0, h1⟩
  | b :: l, m, _, _ => sumL_bd l _ (sumStep_lt m b.toNat).1 (sumStep_lt m b.toNat).2
theorem app_iff {a b c d : List UInt8} (h : a.length = b.length) : a ++ c = b ++ d ↔ a = b ∧ c = d := ⟨fun e => List.append_inj e h, fun ⟨h1, h2⟩ => by rw [h1, h2]⟩
theorem enc_iff {wh : List UInt8} {n : Nat} {p q : Int} (hl : (wh.length : Int) = szR n) (hn : nAt wh 0 2 = n) (hp0 : 0 ≤ p) (hp : p + 1 < 4294967296) :
    encR ⟨p + 1, q, bs ((wh.drop 12).take n)⟩ = wh ↔ (zeroL ((wh.drop 2).take 2) = true ∧ nAt wh 4 4 = p + 1 ∧ nAt wh 8 4 = sumL ((wh.drop 12).take n) 0 ∧ zeroL (wh.drop (12 + n)) = true) := by
  obtain ⟨z1, z2, z3, z4⟩ := szR_bd (n := n) (by omega)
  have hbl : (bs ((wh.drop 12).take n)).size = n := by rw [bs_size, List.length_take, List.length_drop]; omega
  have hsum := (show 0 ≤ sumL ((wh.drop 12).take n) 0 ∧ sumL ((wh.drop 12).take n) 0 < 2147483648 from sumL_bd _ 0 (by omega) (by omega))
  have hd : wh.take 2 ++ ((wh.drop 2).take 2 ++ ((wh.drop 4).take 4 ++ ((wh.drop 8).take 4 ++ ((wh.drop 12).take n ++ wh.drop (12 + n))))) = wh := by
    conv => rhs; rw [← List.take_append_drop 2 wh, split_at wh 2 2, split_at wh 4 4, split_at wh 8 4, split_at wh 12 n]
  have e0 : lit (n : Int) 2 = wh.take 2 := by
    have := nAt_lit (l := wh) (a := 0) (c := 2) (by omega)
    rw [hn] at this; exact this
  have ez2 := zeroL_eq ((wh.drop 2).take 2)
  have ezr := zeroL_eq (wh.drop (12 + n))
  rw [show ((wh.drop 2).take 2).length = 2 by rw [List.length_take, List.length_drop]; omega] at ez2
  rw [show (wh.drop (12 + n)).length = (szR n).toNat - (12 + n) by rw [List.length_drop]; omega] at ezr
  unfold encR
  simp only [hbl, bl_bs, List.append_assoc]
  conv => lhs; rhs; rw [← hd]
  rw [← e0, List.append_cancel_left_eq, ez2, ezr]
  rw [app_iff (by simp only [List.length_take, List.length_drop, List.length_cons, List.length_nil]; omega), app_iff (by simp only [List.length_take, List.length_drop, lit_length]; omega), app_iff (by simp only [List.length_take, List.length_drop, lit_length]; omega), List.append_cancel_left_eq,
    lit_inj4 (by omega) (by omega) hp, lit_inj4 (by omega) hsum.1 (by omega)]
  rw [show ([0, 0] : List UInt8) = zerosL 2 from rfl, show (szR (n : Int)).toNat - (12 + n) = (szR (n : Int)).toNat - (12 + n) from rfl]
  constructor
  · rintro ⟨h1, h2, h3, h4⟩; exact ⟨h1.symm, h2, h3, h4.symm⟩
  · rintro ⟨h1, h2, h3, h4⟩; exact ⟨h1.symm, h2, h3, h4.symm⟩
def stIn (s : List UInt8) (pg : Nat) (top : Int) (p : Nat) (least : Int) : Option RecP :=
  match tkIn s pg top 3500 8 p 0 with
  | none => none
  | some (hd, _) =>
   if zeroL ((hd.drop 2).take 2) = false ∨ nAt hd 4 4 ≠ p + 1 ∨ inB (nAt hd 0 2) 1 3000 = false then none else
   match tkIn s pg top 3500 (szR (nAt hd 0 2)).toNat p 0 with
   | none => none
   | some (al, q) =>
    if q < least then none else
    if nAt al 8 4 ≠ sumL ((al.drop 12).take (nAt hd 0 2).toNat) 0 ∨ zeroL (al.drop (12 + (nAt hd 0 2).toNat)) = false then none
    else some ⟨p + 1, q, bs ((al.drop 12).take (nAt hd 0 2).toNat)⟩
theorem nAt_take {l : List UInt8} {a c k : Nat} (h : a + c ≤ k) : nAt (l.take k) a c = nAt l a c := by
  unfold nAt; rw [List.drop_take, List.take_take, Nat.min_eq_left (by omega)]
theorem take_drop_take {l : List UInt8} {a c k : Nat} (h : a + c ≤ k) : ((l.take k).drop a).take c = (l.drop a).take c := by
  rw [List.drop_take, List.take_take, Nat.min_eq_left (by omega)]
theorem st_rc {s : List UInt8} {pg : Nat} (hs : s.length = 512 * pg) (hpg : 4 ≤ pg) (top : Int) (htop : top < 4294967296) (p : Nat) (hp : p + 4000 < 4294967296) (h8 : p % 8 = 0) (least aft : Int) (hla : least = aft ∨ (least = 1 ∧ aft = 0)) :
    stIn s pg top p least = rcIn s pg top p aft := by
  unfold stIn rcIn
  rw [if_neg (by omega), Int.toNat_natCast]
  have hrt := rt_in hs hpg top htop (p / 448) (by omega)
  rw [tk_first hs hpg top htop 3500 8 p (by omega) (by omega) (by omega)]
  cases hq : pgIn s pg top (p / 448) with
  | none => rfl
  | some x =>
   obtain ⟨q, b⟩ := x
   simp only
   have hq1 : 1 ≤ q := by
     cases hr : rtIn s pg top (p / 448) with
     | none => rw [hr] at hrt; simp only at hrt; rw [hq] at hrt; cases hrt
     | some y =>
      obtain ⟨u, t, c⟩ := y
      rw [hr] at hrt; simp only at hrt
      rw [hq] at hrt
      obtain ⟨e, _, _, _, h1, _⟩ := hrt
      injection e with e
      injection e with e1 e2
      omega
   have hlq : q < least ↔ q < aft := by omega
   cases h12 : byIn s pg top q 3500 12 p with
   | none =>
    have : ∀ n : Int, 1 ≤ n → byIn s pg top q 3500 (szR n).toNat p = none := fun n hn => by
      cases hw : byIn s pg top q 3500 (szR n).toNat p with
      | none => rfl
      | some w =>
       obtain ⟨z1, z2, z3, z4⟩ := szR_bd (n := n) (by omega)
       have := by_prefix _ _ _ w hw (by_length _ _ _ _ hw) 12 (by omega)
       rw [this] at h12; cases h12
    cases h8 : byIn s pg top q 3500 8 p with
    | none => simp only [Option.map_none]; split <;> rfl
    | some hd =>
     simp only [Option.map_some]
     by_cases hc : zeroL ((hd.drop 2).take 2) = false ∨ nAt hd 4 4 ≠ p + 1 ∨ inB (nAt hd 0 2) 1 3000 = false
     · rw [if_pos hc]; split <;> rfl
     · rw [if_neg hc]
       have hin : inB (nAt hd 0 2) 1 3000 = true := by
         cases h : inB (nAt hd 0 2) 1 3000 with
         | true => rfl
         | false => exact absurd (.inr (.inr h)) hc
       have hn := inB_true.1 hin
       obtain ⟨z1, z2, z3, z4⟩ := szR_bd (n := nAt hd 0 2) (by omega)
       rw [tk_first hs hpg top htop 3500 _ p (by omega) (by omega) (by omega), hq]
       simp only
       rw [this _ hn.1]
       simp only [Option.map_none]; split <;> rfl
   | some hd =>
    have hl12 := by_length _ _ _ _ h12
    have h8' := by_prefix _ _ _ hd h12 hl12 8 (by omega)
    rw [h8']
    simp only [Option.map_some]
    rw [nAt_take (by omega), nAt_take (by omega), take_drop_take (by omega)]
    by_cases hqa : q < aft
    · rw [if_pos hqa]
      split
      · rfl
      · rename_i hc
        have hin : inB (nAt hd 0 2) 1 3000 = true := by
          cases h : inB (nAt hd 0 2) 1 3000 with
          | true => rfl
          | false => exact absurd (.inr (.inr h)) hc
        have hn := inB_true.1 hin
        obtain ⟨z1, z2, z3, z4⟩ := szR_bd (n := nAt hd 0 2) (by omega)
        rw [tk_first hs hpg top htop 3500 _ p (by omega) (by omega) (by omega), hq]
        simp only
        cases byIn s pg top q 3500 (szR (nAt hd 0 2)).toNat p with
        | none => rfl
        | some w => simp only [Option.map_some]; rw [if_pos (hlq.2 hqa)]
    · rw [if_neg hqa]
      cases hin : inB (nAt hd 0 2) 1 3000 with
      | false => rw [if_pos (.inr (.inr rfl)), if_pos rfl]
      | true =>
       have hn := inB_true.1 hin
       obtain ⟨N, hN⟩ := Int.eq_ofNat_of_zero_le (show 0 ≤ nAt hd 0 2 by omega)
       rw [hN] at hn ⊢
       obtain ⟨z1, z2, z3, z4⟩ := szR_bd (n := (N : Int)) (by omega)
       rw [if_neg (show ¬ (true = false) by simp), tk_first hs hpg top htop 3500 _ p (by omega) (by omega) (by omega), hq]
       simp only
       cases hw : byIn s pg top q 3500 (szR (N : Int)).toNat p with
       | none => simp only [Option.map_none]; split <;> rfl
       | some w =>
        have hlw := by_length _ _ _ _ hw
        have h12' := by_prefix _ _ _ w hw hlw 12 (by omega)
        rw [h12] at h12'
        injection h12' with h12'
        simp only [Option.map_some]
        rw [if_neg (show ¬ q < least from fun h => hqa (hlq.1 h)), Int.toNat_natCast]
        have hnw : nAt w 0 2 = N := by rw [← hN, h12', nAt_take (by omega)]
        have hiff := enc_iff (wh := w) (n := N) (p := p) (q := q) (by omega) hnw (by omega) (by omega)
        have e1 : ((hd.drop 2).take 2) = ((w.drop 2).take 2) := by rw [h12', take_drop_take (by omega)]
        have e2 : nAt hd 4 4 = nAt w 4 4 := by rw [h12', nAt_take (by omega)]
        rw [e1, e2]
        by_cases he : encR ⟨(p : Int) + 1, q, bs ((w.drop 12).take N)⟩ = w
        · obtain ⟨a1, a2, a3, a4⟩ := hiff.1 he
          rw [if_pos he, if_neg (by rw [a1, a2]; simp), if_neg (by rw [a3, a4]; simp)]
        · rw [if_neg he]
          split
          · rfl
          · rename_i hc
            split
            · rfl
            · rename_i hd
              exfalso
              apply he
              rw [hiff]
              refine ⟨?_, ?_, ?_, ?_⟩
              · cases h : zeroL ((w.drop 2).take 2) with
                | true => rfl
                | false => exact absurd (.inl h) hc
              · exact Classical.not_not.1 fun h => hc (.inr (.inl h))
              · exact Classical.not_not.1 fun h => hd (.inl h)
              · cases h : zeroL (w.drop (12 + N)) with
                | true => rfl
                | false => exact absurd (.inr h) hd
end Go.Proofs.YtmlilplbdpjfcaaGreatDoor
