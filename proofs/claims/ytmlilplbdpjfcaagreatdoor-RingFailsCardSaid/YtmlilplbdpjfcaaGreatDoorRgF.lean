/-
  Chapter 20: what stands in a room of a log, record by record; plain.
  Chapter 20: what is read of a disk some of whose rooms are right; plain.
  Chapter 20: a log is read of a disk: all records that stand in rooms that are right, and a beginning of the others; plain.
  Chapter 20: pages of which only some sectors were written; plain.
  Chapter 20: disks on which some sectors of the pages of logs stand; plain.
  Chapter 20: a log on a disk, records appended, of whose pages some sectors were written: what is read; plain.
  Chapter 20: the log that is read, restarted, stands on the disk again; plain.
  Chapter 20: the log that was read, restarted, stands on the disk again; a log that was written stands there; plain.
  Chapter 20: a log that was written stands on the disk; plain.
  Chapter 20: the bytes of a log, read again, are the log closed; plain.
  Chapter 20: power failures: sectors are written, the log is read, restarted; plain.
-/
import Derived.Test.YtmlilplbdpjfcaaGreatDoorRgP5
import Derived.Test.YtmlilplbdpjfcaaGreatDoorRgP3
import Derived.Test.YtmlilplbdpjfcaaGreatDoorRgR
import Derived.Test.YtmlilplbdpjfcaaGreatDoorRg10
import Derived.Test.YtmlilplbdpjfcaaGreatDoorRg32
import Derived.Test.YtmlilplbdpjfcaaGreatDoorRgI
import Derived.Test.YtmlilplbdpjfcaaGreatDoorWRgAr
namespace Go.Proofs.YtmlilplbdpjfcaaGreatDoor
set_option linter.unusedVariables false
set_option linter.unusedSimpArgs false
open Go.RowKit
def Rsk (o S : Int) (l : List RecP) : Prop := o ≤ 100000000 ∧ ∀ m (hm : m < l.length), recE o S (bfrR l m) l[m] = 0
structure RsOk (o S : Int) (l : List RecP) : Prop where
 sz : ∀ k (h : k < l.length), 1 ≤ l[k].b.size ∧ l[k].b.size ≤ 3000
 pos : ∀ k (h : k < l.length), 1 ≤ l[k].l ∧ (l[k].l - 1) % 8 = 0
 bd : ∀ k (h : k < l.length), l[k].l ≤ 100000000 + k * 4000
 sq : ∀ k (h : k < l.length), 1 ≤ l[k].s ∧ l[k].s ≤ S
 nx : ∀ k (h : k + 1 < l.length), (l[k + 1].l - 1 = bhR l[k] ∨ l[k + 1].l - 1 = nxtR (bhR l[k])) ∧ (l[k + 1].s = l[k].s ∨ (l[k].s < l[k + 1].s ∧ (l[k + 1].l - 1) % 448 = 0))
 fst : ∀ h : 0 < l.length, l[0].l = o
theorem bhR_in {x : RecP} (h : x.b.size ≤ 3000) : x.l - 1 + 12 + x.b.size ≤ bhR x ∧ bhR x ≤ x.l + 3015 ∧ (bhR x - (x.l - 1)) % 8 = 0 := by
 have := szR_in h
 unfold bhR; omega
theorem Rsk.ok {o S : Int} {l : List RecP} (h : Rsk o S l) : RsOk o S l := by
 have hz := fun k hk => recE_zero.1 (h.2 k hk)
 have hb := fun k hk => recs_bd ⟨0, ⟨S, 0, o⟩, rst0, l, 0⟩ h.1 k hk fun m hm _ => h.2 m hm
 have hnx : ∀ k (h : k + 1 < l.length), (l[k + 1].l - 1 = bhR l[k] ∨ l[k + 1].l - 1 = nxtR (bhR l[k])) ∧ (l[k + 1].s = l[k].s ∨ (l[k].s < l[k + 1].s ∧ (l[k + 1].l - 1) % 448 = 0)) := fun k hk => by
  obtain ⟨_, _, h1, _, h2⟩ := hz (k + 1) hk
  rw [bfrR_succ hk] at h1 h2
  unfold ordB at h1
  unfold seqB at h2
  simp only [Bool.or_eq_true, Bool.and_eq_true, beq_iff_eq, decide_eq_true_eq] at h1 h2
  exact ⟨h1, h2⟩
 have hfst : ∀ h : 0 < l.length, l[0].l = o ∧ (o - 1) % 8 = 0 := fun h0 => by
  obtain ⟨_, _, h1, _, _⟩ := hz 0 h0
  unfold bfrR ordB at h1
  simp only [if_true, Bool.and_eq_true, beq_iff_eq, decide_eq_true_eq] at h1
  omega
 have hsz : ∀ k (h : k < l.length), 1 ≤ l[k].b.size ∧ l[k].b.size ≤ 3000 := fun k hk => by
  obtain ⟨h1, h2, _⟩ := hz k hk
  omega
 refine ⟨hsz, ?_, fun k hk => (hb k hk).2.1, ?_, hnx, fun h0 => (hfst h0).1⟩
 · intro k
   induction k with
   | zero => intro h0; have := hfst h0; exact ⟨(hb 0 h0).1, by omega⟩
   | succ k ih =>
    intro hk
    have h1 := ih (by omega)
    have h2 := (hnx k hk).1
    have h3 := bhR_in (hsz k (by omega)).2
    have h4 := nxtR_in (p := bhR l[k])
    exact ⟨(hb (k + 1) hk).1, by omega⟩
 · intro k hk
   obtain ⟨_, _, _, h1, _⟩ := hz k hk
   exact inB_true.1 h1
theorem RsOk.mono {o S : Int} {l : List RecP} (h : RsOk o S l) : ∀ (j k : Nat) (hk : k < l.length) (hj : j < k), bhR (l[j]'(by omega)) ≤ l[k].l - 1
 | j, k + 1, hk, hj => by
  have h1 := (h.nx k hk).1
  have h2 := nxtR_in (p := bhR l[k])
  rcases Nat.lt_or_ge j k with h3 | h3
  · have h4 := h.mono j k (by omega) h3
    have h5 := bhR_in (h.sz k (by omega)).2
    omega
  · obtain rfl : j = k := by omega
    omega
theorem RsOk.same {o S : Int} {l : List RecP} (h : RsOk o S l) {q : Int} (j : Nat) : ∀ (k : Nat) (hk : k < l.length) (hjk : j ≤ k), frR q (l[j]'(by omega)) < toR q (l[j]'(by omega)) → frR q l[k] < toR q l[k] → l[k].s = (l[j]'(by omega)).s
 | 0, hk, hjk, _, _ => by
  obtain rfl : j = 0 := (by omega)
  rfl
 | k + 1, hk, hjk, h1, h2 => by
  rcases Nat.lt_or_ge k j with h3 | h3
  · obtain rfl : j = k + 1 := by omega
    rfl
  have h4 := h.mono k (k + 1) hk (by omega)
  have h5 := bhR_in (h.sz k (by omega)).2
  have h6 : frR q l[k] < toR q l[k] := by
   rcases Nat.lt_or_ge j k with h7 | h7
   · have h8 := h.mono j k (by omega) h7
     unfold frR toR at h1 h2 ⊢
     omega
   · obtain rfl : j = k := by omega
     exact h1
  rw [← h.same j k (by omega) h3 h1 h6]
  rcases (h.nx k hk).2 with h7 | h7
  · exact h7
  · unfold frR toR at h6 h2
    omega
structure PgR (q : Int) (st : List UInt8 × Int × Int) (x : RecP) : Prop where
 s : st.2.2 = x.s
 u : toR q x - q * 448 ≤ st.2.1
 c : ∀ i : Nat, frR q x ≤ q * 448 + i → q * 448 + i < toR q x → st.1.getD i 0 = (encR x).getD (q * 448 + i - (x.l - 1)).toNat 0
theorem pg_rec {o S : Int} {l : List RecP} (h0 : Rsk o S l) {q : Int} {j : Nat} (hj : j < l.length) (hw : frR q l[j] < toR q l[j]) : ∀ (k : Nat) (hk : k ≤ l.length), j < k →
 PgR q (pgK q l k) l[j] ∧ ((∀ h2 : j + 1 < l.length, j + 1 < k → (q + 1) * 448 ≤ l[j + 1].l - 1) → (pgK q l k).2.1 = toR q l[j] - q * 448)
 | k + 1, hk, hjk => by
  have h := h0.ok
  have hinv := pgK_inv (r := ⟨0, ⟨S, 0, o⟩, rst0, l, 0⟩) q h0.2 h0.1 k (by show k ≤ l.length; omega)
  obtain ⟨e, hI, hE⟩ := hinv
  have hE := hE (show k < l.length by omega)
  have hE : e ≤ l[k].l - 1 := hE
  have hI : PgI q (pgK q l k) e := hI
  have hl := hI.len
  have hsz := (h.sz k (by omega)).2
  rw [pgK_succ q l k (by omega), pgStp_eq]
  rcases Nat.lt_or_ge j k with h3 | h3
  · obtain ⟨h4, h5⟩ := pg_rec h0 hj hw k (by omega) h3
    have h6 := h.mono j k (by omega) h3
    split
    · rename_i hn
      refine ⟨h4, fun h7 => h5 fun h2 h8 => h7 h2 (by omega)⟩
    · rename_i hn
      have h7 := cutR_length hsz hn
      have h8 := room_in hn
      refine ⟨⟨?_, ?_, fun i hi1 hi2 => ?_⟩, fun h9 => ?_⟩
      · exact h.same j k (by omega) (by omega) hw (by omega)
      · show _ ≤ toR q l[k] - q * 448
        have g1 : toR q l[j] ≤ bhR l[j] := by unfold toR; omega
        have g2 : l[k].l - 1 ≤ frR q l[k] := by unfold frR; omega
        clear h5
        omega
      · show (patL _ (frR q l[k] - q * 448).toNat (cutR q l[k])).getD i 0 = _
        rw [patL_getD (by rw [hl]; omega), if_neg, h4.c i hi1 hi2]
        simp only [frR, toR] at hi1 hi2 ⊢
        omega
      · exfalso
        have h10 := h9 (by omega) (by omega)
        have h14 : (q + 1) * 448 ≤ l[k].l - 1 := by
         rcases Nat.lt_or_ge (j + 1) k with h11 | h11
         · have h12 := h.mono (j + 1) k (by omega) h11
           have h13 := bhR_in (h.sz (j + 1) (by omega)).2
           omega
         · obtain rfl : k = j + 1 := by omega
           exact h10
        unfold frR toR at hn
        omega
  · obtain rfl : j = k := by omega
    rw [if_neg (by omega)]
    have hn : ¬ toR q l[j] ≤ frR q l[j] := by omega
    have h7 := cutR_length hsz hn
    have h8 := room_in hn
    refine ⟨⟨rfl, Int.le_refl _, fun i hi1 hi2 => ?_⟩, fun _ => rfl⟩
    show (patL _ (frR q l[j] - q * 448).toNat (cutR q l[j])).getD i 0 = _
    have e1 := encR_length hsz
    have h9 : toR q l[j] - (l[j].l - 1) ≤ (encR l[j]).length := by rw [e1]; unfold toR bhR; omega
    rw [patL_getD (by rw [hl]; omega), if_pos (by omega)]
    unfold cutR
    have h10 : frR q l[j] - (l[j].l - 1) ≥ 0 := by unfold frR; omega
    rw [List.getD_eq_getElem?_getD, List.getElem?_take, if_pos (by omega), List.getElem?_drop, ← List.getD_eq_getElem?_getD]
    exact gD (by omega)
def usdL (q : Int) (l : List RecP) : List UInt8 := (pgFld q l).1.take (pgFld q l).2.1.toNat
theorem pg_inv {o S : Int} {l : List RecP} (h0 : Rsk o S l) (q : Int) : ∃ e, PgI q (pgFld q l) e := by
 obtain ⟨e, hI, _⟩ := pgK_inv (r := ⟨0, ⟨S, 0, o⟩, rst0, l, 0⟩) q h0.2 h0.1 l.length (Nat.le_refl _)
 rw [pgK_all] at hI
 exact ⟨e, hI⟩
theorem usdL_length {o S : Int} {l : List RecP} (h0 : Rsk o S l) (q : Int) : ((usdL q l).length : Int) = (pgFld q l).2.1 ∧ (usdL q l).length ≤ 448 := by
 obtain ⟨e, hI⟩ := pg_inv h0 q
 have h1 := hI.whole.2
 have h2 := hI.u1
 unfold usdL
 omega
theorem usd_rec {o S : Int} {l : List RecP} (h0 : Rsk o S l) {q : Int} {j : Nat} (hj : j < l.length) (hw : frR q l[j] < toR q l[j]) :
 (pgFld q l).2.2 = l[j].s ∧ toR q l[j] - q * 448 ≤ (usdL q l).length ∧ ((usdL q l).drop (frR q l[j] - q * 448).toNat).take (toR q l[j] - frR q l[j]).toNat = cutR q l[j] ∧
  ((∀ h2 : j + 1 < l.length, (q + 1) * 448 ≤ l[j + 1].l - 1) → ((usdL q l).length : Int) = toR q l[j] - q * 448) := by
 obtain ⟨h1, h2⟩ := pg_rec h0 hj hw l.length (Nat.le_refl _) hj
 rw [pgK_all] at h1 h2
 have h3 := usdL_length h0 q
 have hsz := (h0.ok.sz j hj).2
 have hc := cutR_length (q := q) hsz (by omega)
 have hr := room_in (q := q) (x := l[j]) (by omega)
 have h4 := h1.u
 have e1 := encR_length hsz
 refine ⟨h1.s, by omega, ?_, fun h => by rw [h3.1]; exact h2 fun a b => h a⟩
 apply list_ext_getD
 · rw [List.length_take, List.length_drop]; omega
 · intro i hi
   rw [List.length_take, List.length_drop] at hi
   unfold usdL
   have hn : (frR q l[j] - q * 448).toNat + i < (pgFld q l).2.1.toNat := by omega
   rw [List.getD_eq_getElem?_getD, List.getElem?_take, if_pos (by omega), List.getElem?_drop, List.getElem?_take, if_pos hn, ← List.getD_eq_getElem?_getD,
    h1.c _ (by omega) (by omega)]
   unfold cutR
   have h10 : frR q l[j] - (l[j].l - 1) ≥ 0 := by unfold frR; omega
   rw [List.getD_eq_getElem?_getD (l := List.take (toR q l[j] - frR q l[j]).toNat _), List.getElem?_take, if_pos (by omega), List.getElem?_drop, ← List.getD_eq_getElem?_getD]
   exact gD (by omega)
end Go.Proofs.YtmlilplbdpjfcaaGreatDoor
namespace Go.Proofs.YtmlilplbdpjfcaaGreatDoor
set_option linter.unusedVariables false
set_option linter.unusedSimpArgs false
set_option maxRecDepth 4000
open Go.RowKit
theorem usd_getD {o S : Int} {l : List RecP} (h0 : Rsk o S l) {q : Int} {j : Nat} (hj : j < l.length) (i : Nat) (h1 : frR q l[j] ≤ q * 448 + i) (h2 : q * 448 + i < toR q l[j]) :
 (usdL q l).getD i 0 = (encR l[j]).getD (q * 448 + i - (l[j].l - 1)).toNat 0 := by
 have hw : frR q l[j] < toR q l[j] := by omega
 obtain ⟨_, h3, h4, _⟩ := usd_rec h0 hj hw
 have h5 := room_in (q := q) (x := l[j]) (by omega)
 have h10 : frR q l[j] - (l[j].l - 1) ≥ 0 := by unfold frR; omega
 have h6 := congrArg (fun m : List UInt8 => m.getD (i - (frR q l[j] - q * 448).toNat) 0) h4
 unfold cutR at h6
 rw [List.getD_eq_getElem?_getD, List.getElem?_take, if_pos (by omega), List.getElem?_drop, ← List.getD_eq_getElem?_getD, List.getD_eq_getElem?_getD (l := List.take _ _), List.getElem?_take, if_pos (by omega), List.getElem?_drop, ← List.getD_eq_getElem?_getD] at h6
 rw [gD (show i = (frR q l[j] - q * 448).toNat + (i - (frR q l[j] - q * 448).toNat) by omega), h6]
 exact gD (by omega)
theorem recP_ext {x y : RecP} (h1 : x.l = y.l) (h2 : x.s = y.s) (h3 : x.b = y.b) : x = y := by
 cases x; cases y; simp only at h1 h2 h3; rw [h1, h2, h3]
def ExP (s : List UInt8) (pg : Nat) (top : Int) (q : Nat) (l : List RecP) : Prop := pgIn s pg top q = some ((pgFld q l).2.2, usdL q l)
def PxP (s : List UInt8) (pg : Nat) (top : Int) (q : Nat) (l : List RecP) : Prop := ∃ b, pgIn s pg top q = some ((pgFld q l).2.2, b) ∧ usdL q l <+: b
theorem ExP.px {s : List UInt8} {pg : Nat} {top : Int} {q : Nat} {l : List RecP} (h : ExP s pg top q l) : PxP s pg top q l := ⟨_, h, List.prefix_refl _⟩
theorem pre_getD {a b : List UInt8} (h : a <+: b) {i : Nat} (hi : i < a.length) : b.getD i 0 = a.getD i 0 := by
 obtain ⟨c, rfl⟩ := h
 rw [List.getD_eq_getElem?_getD, List.getElem?_append_left hi, ← List.getD_eq_getElem?_getD]
theorem by_some {s : List UInt8} {pg : Nat} {top sq : Int} : ∀ (f c at' : Nat) (r : List UInt8), byIn s pg top sq f c at' = some r → ∀ q : Nat, at' / 448 ≤ q → q * 448 < at' + c → 0 < c → ∃ b, pgIn s pg top q = some (sq, b)
 | f, 0, at', r, _, q, _, _, h => by omega
 | 0, c + 1, at', r, h, q, _, _, _ => by simp [byIn] at h
 | f + 1, c + 1, at', r, h, q, h1, h2, _ => by
  unfold byIn at h
  cases hp : pgIn s pg top (at' / 448) with
  | none => rw [hp] at h; simp at h
  | some v =>
   obtain ⟨q', b⟩ := v
   rw [hp] at h
   simp only at h
   split at h
   · simp at h
   · rename_i hc
     have hc1 : q' = sq := Classical.not_not.1 fun h => hc (.inl h)
     obtain ⟨r', hr, _⟩ := Option.map_eq_some_iff.1 h
     rcases Nat.lt_or_ge (at' / 448) q with h3 | h3
     · exact by_some f _ _ r' hr q (by omega) (by omega) (by omega)
     · obtain rfl : q = at' / 448 := by omega
       exact ⟨b, by rw [hp, hc1]⟩
theorem by_rec {s : List UInt8} {pg : Nat} {top o S : Int} {l : List RecP} (h0 : Rsk o S l) {j : Nat} (hj : j < l.length) : ∀ (f c at' : Nat), c ≤ f → l[j].l - 1 ≤ at' → at' + c ≤ bhR l[j] →
 (∀ q : Nat, at' / 448 ≤ q → q * 448 < at' + c → PxP s pg top q l) → byIn s pg top l[j].s f c at' = some (((encR l[j]).drop (at' - (l[j].l - 1)).toNat).take c)
 | f, 0, at', _, _, _, _ => by rw [List.take_zero]; cases f <;> rfl
 | 0, c + 1, at', h, _, _, _ => by omega
 | f + 1, c + 1, at', hf, h1, h2, hx => by
  obtain ⟨b, hp, hb⟩ := hx (at' / 448) (Nat.le_refl _) (by omega)
  have hl1 := (h0.ok.pos j hj).1
  have hw : frR (at' / 448 : Nat) l[j] < toR (at' / 448 : Nat) l[j] := by unfold frR toR; omega
  obtain ⟨u1, u2, _, _⟩ := usd_rec h0 hj hw
  have hbl := hb.length_le
  have htr : (at' : Int) < toR (at' / 448 : Nat) l[j] := by unfold toR; omega
  have htn : (at' : Int) + min (c + 1) (448 - at' % 448) ≤ toR (at' / 448 : Nat) l[j] := by unfold toR; omega
  have hfr : frR (at' / 448 : Nat) l[j] ≤ at' := by unfold frR; omega
  have e1 := encR_length (h0.ok.sz j hj).2
  have e2 : (encR l[j]).length = bhR l[j] - (l[j].l - 1) := by rw [e1]; unfold bhR; omega
  unfold byIn
  rw [hp]
  simp only
  rw [if_neg (by rw [not_or]; exact ⟨by rw [u1]; simp, by omega⟩)]
  rw [by_rec h0 hj f (c + 1 - min (c + 1) (448 - at' % 448)) (at' + min (c + 1) (448 - at' % 448)) (by omega) (by omega) (by omega) (fun q q1 q2 => hx q (by omega) (by omega))]
  rw [Option.map_some]
  congr 1
  obtain ⟨n, hn⟩ : ∃ n, n = min (c + 1) (448 - at' % 448) := ⟨_, rfl⟩
  rw [← hn] at htn ⊢
  have e3 : (b.drop (at' % 448)).take n = ((encR l[j]).drop (at' - (l[j].l - 1)).toNat).take n := by
   apply list_ext_getD
   · rw [List.length_take, List.length_take, List.length_drop, List.length_drop]; omega
   · intro i hi
     rw [List.length_take, List.length_drop] at hi
     rw [List.getD_eq_getElem?_getD, List.getElem?_take, if_pos (by omega), List.getElem?_drop, ← List.getD_eq_getElem?_getD,
      List.getD_eq_getElem?_getD (l := List.take _ _), List.getElem?_take, if_pos (by omega), List.getElem?_drop, ← List.getD_eq_getElem?_getD,
      pre_getD hb (by omega), usd_getD h0 hj _ (by omega) (by omega)]
     exact gD (by omega)
  rw [e3, show c + 1 = n + (c + 1 - n) by omega, List.take_add, List.drop_drop]
  congr 2
  · omega
  · congr 1; omega
theorem enc_parts {x : RecP} (h : x.b.size ≤ 3000) : nAt (encR x) 0 2 = x.b.size ∧ ((encR x).drop 12).take x.b.size = bl x.b := by
 have hl : (bl x.b).length = x.b.size := bl_length x.b
 have e : encR x = (lit x.b.size 2 ++ ([0, 0] ++ (lit x.l 4 ++ lit (sumL (bl x.b) 0) 4))) ++ (bl x.b ++ zerosL ((szR x.b.size).toNat - (12 + x.b.size))) := by unfold encR; simp only [List.append_assoc]
 constructor
 · have e2 : encR x = [] ++ (lit x.b.size 2 ++ ([0, 0] ++ (lit x.l 4 ++ lit (sumL (bl x.b) 0) 4) ++ (bl x.b ++ zerosL ((szR x.b.size).toNat - (12 + x.b.size))))) := by unfold encR; simp only [List.append_assoc, List.nil_append]
   have h2 := nAt_app [] (lit x.b.size 2) ([0, 0] ++ (lit x.l 4 ++ lit (sumL (bl x.b) 0) 4) ++ (bl x.b ++ zerosL ((szR x.b.size).toNat - (12 + x.b.size))))
   rw [← e2, lit_length] at h2
   show nAt (encR x) ([] : List UInt8).length 2 = _
   rw [h2, num_lit]; omega
 · rw [e, List.drop_left' (by simp [lit_length]), ← hl, List.take_left]
theorem rc_pos {s : List UInt8} {pg : Nat} {top o S : Int} {l : List RecP} (h0 : Rsk o S l) {j : Nat} (hj : j < l.length) {aft : Int} (ha : aft ≤ l[j].s)
 (hx : ∀ q : Nat, frR q l[j] < toR q l[j] → PxP s pg top q l) : rcIn s pg top (l[j].l - 1) aft = some l[j] := by
 obtain ⟨p1, p2⟩ := h0.ok.pos j hj
 have hsz := h0.ok.sz j hj
 have hb := bhR_in hsz.2
 obtain ⟨p, hp⟩ := Int.eq_ofNat_of_zero_le (show 0 ≤ l[j].l - 1 by omega)
 have e1 := encR_length hsz.2
 have hz := szR_in hsz.2
 have e2 : (encR l[j]).length = bhR l[j] - (l[j].l - 1) := by rw [e1]; unfold bhR; omega
 have hbh : bhR l[j] = p + szR l[j].b.size := by unfold bhR; omega
 have hq : ∀ q : Nat, p / 448 ≤ q → ∀ c : Nat, (p : Int) + c ≤ bhR l[j] → q * 448 < p + c → PxP s pg top q l := fun q h1 c h2 h3 => hx q (by unfold frR toR; omega)
 have hb1 := by_rec (s := s) (pg := pg) (top := top) h0 hj 3500 12 p (by omega) (by omega) (by omega) (fun q h1 h2 => hq q h1 12 (by omega) h2)
 have hb2 := by_rec (s := s) (pg := pg) (top := top) h0 hj 3500 (szR l[j].b.size).toNat p (by omega) (by omega) (by omega) (fun q h1 h2 => hq q h1 _ (by omega) h2)
 have e0 : ((p : Int) - (l[j].l - 1)).toNat = 0 := by omega
 rw [e0, List.drop_zero] at hb1 hb2
 rw [List.take_of_length_le (by omega)] at hb2
 obtain ⟨n1, n2⟩ := enc_parts hsz.2
 obtain ⟨b, hpg, _⟩ := hq (p / 448) (Nat.le_refl _) 12 (by omega) (by omega)
 obtain ⟨u1, _⟩ := usd_rec h0 hj (q := (p / 448 : Nat)) (by unfold frR toR; omega)
 unfold rcIn
 rw [if_neg (by omega), hp, Int.toNat_natCast, hpg]
 simp only
 rw [u1, if_neg (by omega), hb1]
 simp only
 rw [nAt_take (by omega), n1, if_neg (by rw [Bool.not_eq_false, inB_true]; omega), hb2]
 simp only
 rw [Int.toNat_natCast, n2, bs_bl, show (p : Int) + 1 = l[j].l by omega]
 exact if_pos rfl
theorem rc_seq {s : List UInt8} {pg : Nat} {top a aft : Int} {y : RecP} (h : rcIn s pg top a aft = some y) :
 0 ≤ a ∧ a % 8 = 0 ∧ y.l = a + 1 ∧ aft ≤ y.s ∧ y.b.size ≤ 3000 ∧ (∀ q : Nat, a.toNat / 448 ≤ q → (q : Int) * 448 < bhR y → ∃ b, pgIn s pg top q = some (y.s, b)) ∧
  byIn s pg top y.s 3500 12 a.toNat = some ((encR y).take 12) ∧ byIn s pg top y.s 3500 (szR y.b.size).toNat a.toNat = some (encR y) := by
 unfold rcIn at h
 split at h
 · simp at h
 rename_i h1
 cases hp : pgIn s pg top (a.toNat / 448) with
 | none => rw [hp] at h; simp at h
 | some v =>
  obtain ⟨q, b⟩ := v
  rw [hp] at h
  simp only at h
  split at h
  · simp at h
  rename_i h2
  cases hb : byIn s pg top q 3500 12 a.toNat with
  | none => rw [hb] at h; simp at h
  | some hd =>
   rw [hb] at h
   simp only at h
   split at h
   · simp at h
   rename_i h3
   rw [Bool.not_eq_false, inB_true] at h3
   cases hb2 : byIn s pg top q 3500 (szR (nAt hd 0 2)).toNat a.toNat with
   | none => rw [hb2] at h; simp at h
   | some wh =>
    rw [hb2] at h
    simp only at h
    split at h
    · rename_i h4
      injection h with h
      have hwl := by_length _ _ _ _ hb2
      have hz : 12 + nAt hd 0 2 ≤ szR (nAt hd 0 2) := (szR_bd (by omega)).1
      have hys : (y.b.size : Int) = nAt hd 0 2 := by
       rw [← h]
       show ((bs ((wh.drop 12).take (nAt hd 0 2).toNat)).size : Int) = _
       rw [bs_size, List.length_take, List.length_drop, hwl]; omega
      rw [h] at h4
      have hyq : y.s = q := by rw [← h]
      have hyl : y.l = a + 1 := by rw [← h]
      have hpre := by_prefix _ _ _ _ hb2 hwl 12 (by omega)
      rw [hb] at hpre
      injection hpre with hpre
      refine ⟨by omega, by omega, hyl, by omega, by omega, fun q' q1 q2 => ?_, ?_, ?_⟩
      · rw [hyq]
        refine by_some _ _ _ _ hb2 q' q1 ?_ (by omega)
        unfold bhR at q2
        rw [hys] at q2; omega
      · rw [hyq, h4, ← hpre]; exact hb
      · rw [hyq, h4, hys]; exact hb2
    · simp at h
theorem rc_neg {s : List UInt8} {pg : Nat} {top o S aft : Int} {l : List RecP} (h0 : Rsk o S l) {j : Nat} (hj : j < l.length) {y : RecP} (h : rcIn s pg top (l[j].l - 1) aft = some y) (hs : y.s = l[j].s)
 (hx : ∀ (q : Nat) (b : List UInt8), frR q l[j] < toR q l[j] → pgIn s pg top q = some (l[j].s, b) → PxP s pg top q l) : y = l[j] ∧ ∀ q : Nat, frR q l[j] < toR q l[j] → PxP s pg top q l := by
 obtain ⟨r1, r2, r3, r4, r5, r6, r7, r8⟩ := rc_seq h
 have hsz := h0.ok.sz j hj
 have hb := bhR_in hsz.2
 obtain ⟨p, hp⟩ := Int.eq_ofNat_of_zero_le (show 0 ≤ l[j].l - 1 by omega)
 rw [hp, Int.toNat_natCast] at r6 r7 r8
 have e0 : ((p : Int) - (l[j].l - 1)).toNat = 0 := by omega
 have hyb := bhR_in r5
 have hz := szR_in hsz.2
 have hbh : bhR l[j] = p + szR l[j].b.size := by unfold bhR; omega
 have e1 := encR_length hsz.2
 have hP : ∀ q : Nat, p / 448 ≤ q → ∀ c : Nat, (p : Int) + c ≤ bhR l[j] → (p : Int) + c ≤ bhR y → q * 448 < p + c → PxP s pg top q l := fun q h1 c h2 h3 h4 => by
  obtain ⟨b, hb⟩ := r6 q h1 (by omega)
  exact hx q b (by unfold frR toR; omega) (by rw [← hs]; exact hb)
 have hb1 := by_rec (s := s) (pg := pg) (top := top) h0 hj 3500 12 p (by omega) (by omega) (by omega) (fun q h1 h2 => hP q h1 12 (by omega) (by omega) h2)
 rw [e0, List.drop_zero, ← hs, r7] at hb1
 injection hb1 with hb1
 obtain ⟨n1, n2⟩ := enc_parts hsz.2
 obtain ⟨m1, m2⟩ := enc_parts r5
 have hsize : y.b.size = l[j].b.size := by
  have h2 : nAt ((encR y).take 12) 0 2 = nAt ((encR l[j]).take 12) 0 2 := by rw [hb1]
  rw [nAt_take (by omega), nAt_take (by omega), n1, m1] at h2
  omega
 have hyb2 : bhR y = bhR l[j] := by unfold bhR; rw [hsize]; omega
 have hb2 := by_rec (s := s) (pg := pg) (top := top) h0 hj 3500 (szR l[j].b.size).toNat p (by omega) (by omega) (by omega) (fun q h1 h2 => hP q h1 _ (by omega) (by omega) h2)
 rw [e0, List.drop_zero, List.take_of_length_le (by omega), ← hs] at hb2
 rw [hsize, hb2] at r8
 injection r8 with r8
 refine ⟨?_, fun q hq => ?_⟩
 · have h2 : bl y.b = bl l[j].b := by rw [← n2, ← m2, r8, hsize]
   have h3 : y.b = l[j].b := by rw [← bs_bl y.b, h2, bs_bl]
   have h4 : y.l = l[j].l := by omega
   exact recP_ext h4 hs h3
 · have : (p : Int) / 448 ≤ q := by unfold frR toR at hq; omega
   exact hP q (by omega) (szR l[j].b.size).toNat (by omega) (by omega) (by unfold frR toR at hq; omega)
end Go.Proofs.YtmlilplbdpjfcaaGreatDoor
namespace Go.Proofs.YtmlilplbdpjfcaaGreatDoor
set_option linter.unusedVariables false
set_option linter.unusedSimpArgs false
set_option maxRecDepth 4000
open Go.RowKit
theorem rc_short {s : List UInt8} {pg : Nat} {top a aft : Int} {b : List UInt8} {sq : Int} (h : pgIn s pg top (a.toNat / 448) = some (sq, b)) (hb : (b.length : Int) ≤ a % 448) : rcIn s pg top a aft = none := by
 rw [Option.eq_none_iff_forall_not_mem]
 intro y hy
 obtain ⟨r1, r2, r3, r4, r5, r6, r7, r8⟩ := rc_seq hy
 unfold byIn at r7
 rw [h] at r7
 simp only at r7
 rw [if_pos (.inr (by omega))] at r7
 simp at r7
def Gap (s : List UInt8) (pg : Nat) (top : Int) (x : RecP) (T : Int) : Prop := bhR x % 448 ≠ 0 → rcIn s pg top (bhR x) x.s = none ∧ (x.s < T ∨ ∃ sq b, pgIn s pg top ((bhR x).toNat / 448) = some (sq, b) ∧ (b.length : Int) = bhR x % 448)
structure Rdg (s : List UInt8) (pg : Nat) (top o S T : Int) (l : List RecP) (m q0 : Nat) : Prop where
 rs : Rsk o S l
 ml : m ≤ l.length
 len : l.length ≤ 100
 q0e : ∀ (h : 0 < m), (q0 : Int) * 448 = nxtR (bhR (l[m - 1]'(by omega)))
 q00 : m = 0 → (q0 : Int) * 448 = o - 1
 new : ∀ k (h : k < l.length), m ≤ k → (q0 : Int) * 448 ≤ l[k].l - 1 ∧ l[k].s = T
 ex : ∀ k (h : k < m) (q : Nat), frR q (l[k]'(by omega)) < toR q (l[k]'(by omega)) → PxP s pg top q l
 gp : ∀ k (h : k + 1 < m), (l[k + 1]'(by omega)).l - 1 = nxtR (bhR (l[k]'(by omega))) → Gap s pg top (l[k]'(by omega)) (l[k + 1]'(by omega)).s
 ge : ∀ (h : 0 < m), Gap s pg top (l[m - 1]'(by omega)) T
 nw : ∀ q : Nat, q0 ≤ q → q < 4294967296 → pgIn s pg top q = none ∨ (ExP s pg top q l ∧ ∃ k, ∃ h : k < l.length, m ≤ k ∧ frR q l[k] < toR q l[k]) ∨ ∃ s' b, pgIn s pg top q = some (s', b) ∧ s' < T
 st : ∀ y, rcIn s pg top (q0 * 448) (if h : 0 < m then (l[m - 1]'(by omega)).s else 0) = some y → T ≤ y.s ∨ ∃ h : 0 < m, bhR (l[m - 1]'(by omega)) % 448 ≠ 0 ∧ y.s ≤ (l[m - 1]'(by omega)).s ∧
  ∀ sq b, pgIn s pg top ((bhR (l[m - 1]'(by omega))).toNat / 448) = some (sq, b) → (b.length : Int) ≠ bhR (l[m - 1]'(by omega)) % 448
variable {s : List UInt8} {pg : Nat} {top o S T : Int} {l : List RecP} {m q0 : Nat}
def AllP (s : List UInt8) (pg : Nat) (top : Int) (l : List RecP) (x : RecP) : Prop := ∀ q : Nat, frR q x < toR q x → PxP s pg top q l
theorem Rdg.newEx (h : Rdg s pg top o S T l m q0) {q : Nat} (hq : q0 ≤ q) (hq2 : q < 4294967296) {sq : Int} {b : List UInt8} (hp : pgIn s pg top q = some (sq, b)) : sq ≤ T ∧ (sq = T → ExP s pg top q l ∧ ∃ k, ∃ h : k < l.length, m ≤ k ∧ frR q l[k] < toR q l[k]) := by
 rcases h.nw q hq hq2 with h1 | ⟨h1, k, hk, h2, h3⟩ | ⟨s', b', h1, h2⟩
 · rw [hp] at h1; simp at h1
 · have h4 := h1
   unfold ExP at h4
   rw [hp] at h4
   injection h4 with h4
   injection h4 with h4 h5
   have h6 := (usd_rec h.rs hk h3).1
   have h7 := (h.new k hk h2).2
   exact ⟨by omega, fun _ => ⟨h1, k, hk, h2, h3⟩⟩
 · rw [hp] at h1
   injection h1 with h1
   injection h1 with h1 h5
   exact ⟨by omega, fun h => by omega⟩
theorem Rdg.here (h : Rdg s pg top o S T l m q0) {k : Nat} (hk : k < l.length) (hm : m ≤ k) {aft : Int} {y : RecP} (hy : rcIn s pg top (l[k].l - 1) aft = some y) (hs : T ≤ y.s) : y = l[k] ∧ AllP s pg top l l[k] := by
 obtain ⟨n1, n2⟩ := h.new k hk hm
 obtain ⟨r1, r2, r3, r4, r5, r6, r7, r8⟩ := rc_seq hy
 have hyb := bhR_in r5
 obtain ⟨b, hb⟩ := r6 _ (Nat.le_refl _) (by omega)
 have hbd := h.rs.ok.bd k hk
 have hbk := bhR_in (h.rs.ok.sz k hk).2
 have hlen := h.len
 have h1 := (h.newEx (by omega) (by omega) hb).1
 refine rc_neg h.rs hk hy (by omega) fun q b hq hp => ?_
 have hq0 : q0 ≤ q := by unfold frR toR at hq; omega
 exact ((h.newEx hq0 (by unfold frR toR at hq; omega) hp).2 (by omega)).1.px
theorem Rdg.stT (h : Rdg s pg top o S T l m q0) {k : Nat} (hk : k < l.length) (hm : m ≤ k + 1) {y : RecP} (hy : rcIn s pg top (nxtR (bhR l[k])) l[k].s = some y) :
 T ≤ y.s ∨ (k + 1 = m ∧ bhR l[k] % 448 ≠ 0 ∧ y.s ≤ l[k].s ∧ ∀ sq b, pgIn s pg top ((bhR l[k]).toNat / 448) = some (sq, b) → (b.length : Int) ≠ bhR l[k] % 448) := by
 rcases Nat.lt_or_ge k m with h1 | h1
 · have h2 := h.q0e (by omega)
   have h3 := h.st y
   obtain rfl : m = k + 1 := by omega
   rw [dif_pos (by omega)] at h3
   simp only [Nat.add_sub_cancel] at h2 h3
   rcases h3 (by rw [h2]; exact hy) with h4 | ⟨_, h4⟩
   · exact .inl h4
   · exact .inr ⟨rfl, h4⟩
 · left
   have h2 := (rc_seq hy).2.2.2.1
   have h3 := (h.new k hk h1).2
   omega
theorem Rdg.begin_ (h : Rdg s pg top o S T l m q0) {k : Nat} (hk : k < l.length) (hm : m ≤ k + 1) {y : RecP} (hy : rcIn s pg top (nxtR (bhR l[k])) l[k].s = some y) (hT : T ≤ y.s) :
 ∃ hk2 : k + 1 < l.length, T = y.s ∧ (l[k + 1].l - 1 = nxtR (bhR l[k]) → y = l[k + 1] ∧ AllP s pg top l l[k + 1]) := by
 have hbk := bhR_in (h.rs.ok.sz k hk).2
 have hpk := h.rs.ok.pos k hk
 obtain ⟨r1, r2, r3, r4, r5, r6, r7, r8⟩ := rc_seq hy
 have hyb := bhR_in r5
 have hnx := nxtR_in (p := bhR l[k])
 have hq0 : q0 ≤ (nxtR (bhR l[k])).toNat / 448 := by
  rcases Nat.lt_or_ge k m with h1 | h1
  · have h2 := h.q0e (by omega)
    obtain rfl : m = k + 1 := by omega
    simp only [Nat.add_sub_cancel] at h2
    omega
  · have h2 := (h.new k hk h1).1
    omega
 obtain ⟨b, hb⟩ := r6 _ (Nat.le_refl _) (by omega)
 have hbd := h.rs.ok.bd k hk
 have hlen := h.len
 obtain ⟨h1, h2⟩ := h.newEx hq0 (by omega) hb
 obtain ⟨_, k', hk', h3, h4⟩ := h2 (by omega)
 clear h2
 have hkk : k + 1 < l.length := by
  rcases Nat.lt_or_ge k k' with h5 | h5
  · omega
  · exfalso
    have h6 : bhR l[k'] ≤ bhR l[k] := by
     rcases Nat.lt_or_ge k' k with h7 | h7
     · have h8 := h.rs.ok.mono k' k hk h7
       omega
     · obtain rfl : k = k' := by omega
       omega
    unfold frR toR at h4
    omega
 refine ⟨hkk, by omega, fun h5 => ?_⟩
 rw [← h5] at hy
 exact h.here hkk (by omega) hy hT
theorem Rdg.af (h : Rdg s pg top o S T l m q0) {k : Nat} (hk : k < l.length) (hr : AllP s pg top l l[k]) :
 (afIn s pg top l[k] = none ∧ m ≤ k + 1) ∨ ∃ hk2 : k + 1 < l.length, afIn s pg top l[k] = some l[k + 1] ∧ AllP s pg top l l[k + 1] := by
 have ok := h.rs.ok
 have hbk := bhR_in (ok.sz k hk).2
 have hpk := ok.pos k hk
 have hnx := nxtR_in (p := bhR l[k])
 have hnb : bhR l[k] % 448 = 0 → nxtR (bhR l[k]) = bhR l[k] := by unfold nxtR; omega
 have hnn : bhR l[k] % 448 ≠ 0 → nxtR (bhR l[k]) = (bhR l[k] / 448 + 1) * 448 := by unfold nxtR; omega
 have hend : bhR l[k] % 448 ≠ 0 → frR ((bhR l[k]).toNat / 448 : Nat) l[k] < toR ((bhR l[k]).toNat / 448 : Nat) l[k] := fun h1 => by unfold frR toR; omega
 by_cases hm : k + 1 < m
 · -- an old one
   have hk2 : k + 1 < l.length := by have := h.ml; omega
   have hall : AllP s pg top l l[k + 1] := fun q hq => h.ex (k + 1) hm q hq
   obtain ⟨n1, n2⟩ := ok.nx k hk2
   have hle : l[k].s ≤ l[k + 1].s := by omega
   have hb2 := bhR_in (ok.sz (k + 1) hk2).2
   right
   refine ⟨hk2, ?_, hall⟩
   have hrc := rc_pos (s := s) (pg := pg) (top := top) h.rs hk2 hle hall
   unfold afIn
   rcases n1 with n1 | n1
   · rw [n1] at hrc
     rw [hrc, Option.filter_some_pos (by rcases n2 with n2 | n2 <;> simp [n2] <;> omega)]
   · by_cases h0 : bhR l[k] % 448 = 0
     · rw [hnb h0] at n1
       rw [n1] at hrc
       rw [hrc, Option.filter_some_pos (by simp [h0])]
     · obtain ⟨g1, g2⟩ := h.gp k hm n1 h0
       rw [n1] at hrc
       rw [g1, Option.filter_none]
       simp only
       rw [if_neg h0, hrc]
       simp only
       rcases g2 with g2 | ⟨sq, b, g2, g3⟩
       · rw [if_pos g2]
       · rw [g2]
         simp only
         rw [if_pos g3]
         split <;> rfl
 · have hm1 : m ≤ k + 1 := by omega
   unfold afIn
   by_cases h0 : bhR l[k] % 448 = 0
   · -- it ends where a room begins
     cases hy : rcIn s pg top (bhR l[k]) l[k].s with
     | none =>
      left
      refine ⟨?_, hm1⟩
      rw [Option.filter_none]
      simp only
      rw [if_pos h0]
     | some y =>
      right
      rw [← hnb h0] at hy
      have hT : T ≤ y.s := by
       rcases h.stT hk hm1 hy with h1 | ⟨_, h1, _⟩
       · exact h1
       · exact absurd h0 h1
      obtain ⟨hk2, h1, h2⟩ := h.begin_ hk hm1 hy hT
      have h3 := h2 (by have := (ok.nx k hk2).1; have := hnb h0; omega)
      refine ⟨hk2, ?_, h3.2⟩
      rw [Option.filter_some_pos (by simp [h0]), h3.1]
   · by_cases hc : ∃ hk2 : k + 1 < l.length, l[k + 1].l - 1 = bhR l[k]
     · -- the next one begins in the same room
       obtain ⟨hk2, hc⟩ := hc
       have hmk : m ≤ k := by
        rcases Nat.lt_or_ge k m with h1 | h1
        · exfalso
          have h2 := h.q0e (by omega)
          have h3 := (h.new (k + 1) hk2 (by omega)).1
          obtain rfl : m = k + 1 := by omega
          simp only [Nat.add_sub_cancel] at h2
          have := hnn h0
          omega
        · exact h1
       obtain ⟨a1, a2⟩ := h.new k hk hmk
       obtain ⟨b1, b2⟩ := h.new (k + 1) hk2 (by omega)
       have hb2 := bhR_in (ok.sz (k + 1) hk2).2
       have hw2 : frR ((bhR l[k]).toNat / 448 : Nat) l[k + 1] < toR ((bhR l[k]).toNat / 448 : Nat) l[k + 1] := by unfold frR toR; omega
       obtain ⟨pb, hpb, hpre⟩ := hr _ (hend h0)
       have u1 := (usd_rec h.rs hk (hend h0)).1
       have v1 := (usd_rec h.rs hk2 hw2).1
       have v2 := (usd_rec h.rs hk2 hw2).2.1
       cases hy : rcIn s pg top (bhR l[k]) l[k].s with
       | some y =>
        right
        obtain ⟨r1, r2, r3, r4, r5, r6, r7, r8⟩ := rc_seq hy
        have hyb := bhR_in r5
        obtain ⟨b, hb⟩ := r6 _ (Nat.le_refl _) (by omega)
        rw [hpb] at hb
        injection hb with hb
        injection hb with hb _
        rw [← hc] at hy
        have h3 := h.here hk2 (by omega) hy (by omega)
        refine ⟨hk2, ?_, h3.2⟩
        rw [Option.filter_some_pos (by simp; right; omega), h3.1]
       | none =>
        left
        refine ⟨?_, hm1⟩
        rw [Option.filter_none]
        simp only
        rw [if_neg h0]
        cases hy2 : rcIn s pg top (nxtR (bhR l[k])) l[k].s with
        | none => rfl
        | some y =>
         simp only
         have hT : T ≤ y.s := by
          rcases h.stT hk hm1 hy2 with h1 | ⟨h1, _⟩
          · exact h1
          · omega
         obtain ⟨_, h1, _⟩ := h.begin_ hk hm1 hy2 hT
         rw [if_neg (by omega), hpb]
         simp only
         have hl := hpre.length_le
         have : bhR l[k] < toR ((bhR l[k]).toNat / 448 : Nat) l[k + 1] := by unfold toR; omega
         rw [if_neg (by omega)]
     · -- nothing stands behind it in its room
       have hnext : ∀ h2 : k + 1 < l.length, l[k + 1].l - 1 = nxtR (bhR l[k]) := fun h2 => by
        rcases (ok.nx k h2).1 with h3 | h3
        · exact absurd ⟨h2, h3⟩ hc
        · exact h3
       clear hc
       have hu := (usd_rec h.rs hk (hend h0)).2.2.2 fun h2 => by have := hnn h0; have := hnext h2; omega
       have hut : toR ((bhR l[k]).toNat / 448 : Nat) l[k] = bhR l[k] := by unfold toR; omega
       have hu2 : ((usdL ((bhR l[k]).toNat / 448 : Nat) l).length : Int) = bhR l[k] % 448 := by omega
       have hpage : rcIn s pg top (bhR l[k]) l[k].s = none ∧ (l[k].s < T ∨ ∃ sq b, pgIn s pg top ((bhR l[k]).toNat / 448) = some (sq, b) ∧ (b.length : Int) = bhR l[k] % 448) := by
        rcases Nat.lt_or_ge k m with h1 | h1
        · have h2 := h.ge (by omega)
          obtain rfl : m = k + 1 := by omega
          simp only [Nat.add_sub_cancel] at h2
          exact h2 h0
        · obtain ⟨a1, a2⟩ := h.new k hk h1
          obtain ⟨pb, hpb, hpre⟩ := hr _ (hend h0)
          have u1 := (usd_rec h.rs hk (hend h0)).1
          have hbd := h.rs.ok.bd k hk
          have hlen := h.len
          have hx := ((h.newEx (by omega) (by omega) hpb).2 (by omega)).1
          exact ⟨rc_short hx (by omega), .inr ⟨_, _, hx, hu2⟩⟩
       rw [hpage.1, Option.filter_none]
       simp only
       rw [if_neg h0]
       cases hy2 : rcIn s pg top (nxtR (bhR l[k])) l[k].s with
       | none => left; exact ⟨rfl, hm1⟩
       | some y =>
        rcases h.stT hk hm1 hy2 with hT | ⟨t1, t2, t3, t4⟩
        case inr =>
         left
         refine ⟨?_, hm1⟩
         simp only
         rw [if_neg (by omega)]
         cases hp : pgIn s pg top ((bhR l[k]).toNat / 448) with
         | none => rfl
         | some v =>
          obtain ⟨sq, b⟩ := v
          simp only
          exact if_neg (t4 sq b hp)
        right
        obtain ⟨hk2, h1, h2⟩ := h.begin_ hk hm1 hy2 hT
        have h3 := h2 (hnext hk2)
        refine ⟨hk2, ?_, h3.2⟩
        simp only
        rw [h3.1]
        have h4 : l[k + 1].s = T := by rw [← h3.1]; exact h1.symm
        rcases hpage.2 with h5 | ⟨sq, b, h5, h6⟩
        · rw [if_pos (by omega)]
        · rw [h5]
          simp only
          rw [if_pos h6]
          split <;> rfl
theorem Rdg.first (h : Rdg s pg top o S T l m q0) : (rcIn s pg top (o - 1) 0 = none ∧ m = 0) ∨ ∃ h0 : 0 < l.length, rcIn s pg top (o - 1) 0 = some l[0] ∧ AllP s pg top l l[0] := by
 have ok := h.rs.ok
 by_cases hm : 0 < m
 · right
   have h0 : 0 < l.length := by have := h.ml; omega
   have hf := ok.fst h0
   have hall : AllP s pg top l l[0] := fun q hq => h.ex 0 hm q hq
   refine ⟨h0, ?_, hall⟩
   rw [← hf]
   exact rc_pos h.rs h0 (by have := (ok.sq 0 h0).1; omega) hall
 · have hm0 : m = 0 := by omega
   cases hy : rcIn s pg top (o - 1) 0 with
   | none => left; exact ⟨rfl, hm0⟩
   | some y =>
    right
    have h1 := h.q00 hm0
    have h2 : T ≤ y.s := by
     rcases h.st y (by rw [dif_neg hm, h1]; exact hy) with h2 | ⟨h2, _⟩
     · exact h2
     · exact absurd h2 hm
    obtain ⟨r1, r2, r3, r4, r5, r6, r7, r8⟩ := rc_seq hy
    have hyb := bhR_in r5
    obtain ⟨b, hb⟩ := r6 _ (Nat.le_refl _) (by omega)
    have ho := h.rs.1
    obtain ⟨h3, h4⟩ := h.newEx (by omega) (by omega) hb
    obtain ⟨_, k', hk', _, _⟩ := h4 (by omega)
    have h0 : 0 < l.length := by omega
    rw [← ok.fst h0] at hy
    have h5 := h.here h0 (by omega) hy h2
    exact ⟨h0, by rw [h5.1], h5.2⟩
theorem Rdg.from_ (h : Rdg s pg top o S T l m q0) : ∀ (f k : Nat) (hk : k < l.length), l.length - k ≤ f → AllP s pg top l l[k] → ∃ t, k < t ∧ m ≤ t ∧ ∃ ht : t ≤ l.length, allIn s pg top f (some l[k]) = some ((l.take t).drop k) ∧ afIn s pg top (l[t - 1]'(by omega)) = none ∧
 ∀ j (hj : j < t), k ≤ j → AllP s pg top l (l[j]'(by omega))
 | 0, k, hk, hf, _ => by omega
 | f + 1, k, hk, hf, hr => by
  have hd : ∀ t, k < t → t ≤ l.length → (l.take t).drop k = l[k] :: (l.take t).drop (k + 1) := fun t h1 h2 => by
   rw [List.drop_eq_getElem_cons (by rw [List.length_take]; omega), List.getElem_take]
  unfold allIn
  rcases h.af hk hr with ⟨h1, h2⟩ | ⟨hk2, h1, h2⟩
  · refine ⟨k + 1, by omega, h2, by omega, ?_, by simpa using h1, fun j hj hkj => ?_⟩
    · rw [h1, hd _ (by omega) (by omega), List.drop_of_length_le (by rw [List.length_take]; omega)]
      cases f <;> rfl
    · obtain rfl : j = k := by omega
      exact hr
  · obtain ⟨t, t1, t2, t3, t4, t5, t6⟩ := h.from_ f (k + 1) hk2 (by omega) h2
    refine ⟨t, by omega, t2, t3, ?_, t5, fun j hj hkj => ?_⟩
    · rw [h1, t4, hd t (by omega) t3]; rfl
    · rcases Nat.lt_or_ge k j with h3 | h3
      · exact t6 j hj h3
      · obtain rfl : j = k := by omega
        exact hr
theorem Rdg.all (h : Rdg s pg top o S T l m q0) : ∃ t, m ≤ t ∧ ∃ ht : t ≤ l.length, allIn s pg top 100 (rcIn s pg top (o - 1) 0) = some (l.take t) ∧
 (t = 0 → rcIn s pg top (o - 1) 0 = none) ∧ (∀ h0 : 0 < t, afIn s pg top (l[t - 1]'(by omega)) = none) ∧ ∀ j (hj : j < t), AllP s pg top l (l[j]'(by omega)) := by
 rcases h.first with ⟨h1, h2⟩ | ⟨h0, h1, h2⟩
 · refine ⟨0, by omega, by omega, ?_, fun _ => h1, fun h => by omega, fun j hj => by omega⟩
   rw [h1]; rfl
 · obtain ⟨t, t1, t2, t3, t4, t5, t6⟩ := h.from_ 100 0 h0 (by have := h.len; omega) h2
   refine ⟨t, t2, t3, ?_, fun h => by omega, fun _ => t5, fun j hj => t6 j hj (Nat.zero_le _)⟩
   rw [h1, t4, List.drop_zero]
end Go.Proofs.YtmlilplbdpjfcaaGreatDoor
namespace Go.Proofs.YtmlilplbdpjfcaaGreatDoor
set_option linter.unusedVariables false
set_option linter.unusedSimpArgs false
set_option maxRecDepth 4000
open Go.RowKit
theorem pageH_length (q sq : Int) {c : List UInt8} (hc : c.length ≤ 448) : (pgH q c.length sq (c ++ zerosL (448 - c.length))).length = 512 := by
 rw [pgH_length, List.length_append, zerosL_length]; omega
theorem pageL_length (q sq pg : Int) {c : List UInt8} (hc : c.length ≤ 448) : (pageL q sq pg c).length = 512 := by
 unfold pageL; rw [prL_length (pageH_length q sq hc)]
theorem pageL_op (q sq pg : Int) {c : List UInt8} (hc : c.length ≤ 448) :
 opB (pageL q sq pg c) = true ∧ opL (pageL q sq pg c) = pgH q c.length sq (c ++ zerosL (448 - c.length)) ∧ usnL (pageL q sq pg c) = usnP q sq pg := by
 have hH := pageH_length q sq hc
 have hbd := usnP_bd q sq pg
 exact ⟨op_pr_ok hH hbd.1 hbd.2, op_pr hH (fun i h1 h2 => pgH_zero _ _ _ _ i (by omega) (by omega)), usn_pr hH (by omega) hbd.2⟩
theorem pageL_read (q sq pg : Int) {c : List UInt8} (hc : c.length ≤ 448) (hs : 0 ≤ sq ∧ sq < 4294967296) :
 nAt (opL (pageL q sq pg c)) 12 2 = c.length ∧ nAt (opL (pageL q sq pg c)) 14 4 = sq ∧ ((opL (pageL q sq pg c)).drop 64).take c.length = c ∧ nAt (opL (pageL q sq pg c)) 8 4 = num (lit q 4) := by
 obtain ⟨_, h2, _⟩ := pageL_op q sq pg hc
 obtain ⟨r1, r2, r3, r4, r5, r6, r7⟩ := pgH_read q c.length sq (c ++ zerosL (448 - c.length))
 rw [h2, r4, r5, r7, r3, List.take_left]
 refine ⟨?_, ?_, rfl, rfl⟩
 · rw [num_lit]; omega
 · rw [num_lit]; omega
theorem pageL_room {q q' : Nat} {sq sq' pg : Int} {c c' : List UInt8} (hc : c.length ≤ 448) (hc' : c'.length ≤ 448) (hs : 0 ≤ sq ∧ sq < 4294967296) (hs' : 0 ≤ sq' ∧ sq' < 4294967296) (hq : q < 4294967296) (hq' : q' < 4294967296)
 (h : pageL q sq pg c = pageL q' sq' pg c') : q = q' ∧ sq = sq' ∧ c = c' := by
 obtain ⟨a1, a2, a3, a4⟩ := pageL_read q sq pg hc hs
 obtain ⟨b1, b2, b3, b4⟩ := pageL_read q' sq' pg hc' hs'
 rw [h] at a1 a2 a3 a4
 rw [b1] at a1
 have h1 : c'.length = c.length := by omega
 rw [b2] at a2
 rw [← h1, b3] at a3
 rw [b4, num_lit, num_lit] at a4
 exact ⟨by omega, by omega, a3.symm⟩
theorem pg_in_page {s : List UInt8} {pg : Nat} {top : Int} {q q' : Nat} {sq : Int} {c : List UInt8} (hb : blkL s (2 + q % (pg - 2)) = pageL q' sq pg c) (hc : c.length ≤ 448) (hq : q < 4294967296) (hq' : q' < 4294967296) (hs : 1 ≤ sq ∧ sq < 4294967296) :
 pgIn s pg top q = if q = q' ∧ sq ≤ top then some (sq, c) else none := by
 obtain ⟨h1, _, _⟩ := pageL_op q' sq pg hc
 obtain ⟨b1, b2, b3, b4⟩ := pageL_read q' sq pg hc ⟨by omega, hs.2⟩
 unfold pgIn
 rw [hb, h1, if_neg (by simp), b1, b2, Int.toNat_natCast, b3]
 by_cases h : q = q' ∧ sq ≤ top
 · rw [if_pos h, if_pos]
   simp only [Bool.and_eq_true, beq_iff_eq, inB_true]
   exact ⟨⟨⟨by omega, by omega⟩, by omega, h.2⟩, by rw [h.1]⟩
 · rw [if_neg h, if_neg]
   simp only [Bool.and_eq_true, beq_iff_eq, inB_true]
   rintro ⟨⟨_, h2⟩, h3⟩
   exact h ⟨(pageL_room hc hc ⟨by omega, hs.2⟩ ⟨by omega, hs.2⟩ hq hq' h3).1, h2.2⟩
theorem pg_in_some {s : List UInt8} {pg : Nat} {top : Int} {q : Nat} {sq : Int} {c : List UInt8} (hs : s.length = 512 * pg) (hpg : 4 ≤ pg) (h : pgIn s pg top q = some (sq, c)) :
 opB (blkL s (2 + q % (pg - 2))) = true ∧ blkL s (2 + q % (pg - 2)) = pageL q sq pg c ∧ 1 ≤ sq ∧ sq ≤ top ∧ c.length ≤ 448 := by
 unfold pgIn at h
 split at h
 · simp at h
 rename_i h1
 split at h
 · rename_i h2
   simp only [Bool.and_eq_true, beq_iff_eq, inB_true] at h2
   injection h with h
   injection h with h3 h4
   rw [h3, h4] at h2
   have h5 := blkL_length hs (room_lt (q := q) hpg)
   have h6 := opL_length h5
   refine ⟨by simpa using h1, h2.2.symm, h2.1.2.1, h2.1.2.2, ?_⟩
   rw [← h4, List.length_take, List.length_drop]; omega
 · simp at h
theorem pgR_page {o S : Int} (r : RngP) (h0 : Rsk o S r.rs) (q : Int) : pgR r q = pageL q (pgFld q r.rs).2.2 r.pg (usdL q r.rs) := by
 obtain ⟨e, hI⟩ := pg_inv h0 q
 obtain ⟨h1, h2⟩ := hI.whole
 have h3 : (usdL q r.rs ++ zerosL (448 - (usdL q r.rs).length)) = (pgFld q r.rs).1 := h1
 have h4 : ((usdL q r.rs).length : Int) = (pgFld q r.rs).2.1 := h2
 unfold pgR pageL
 rw [h3, h4]
def secL (b : List UInt8) (k : Nat) : List UInt8 := (b.drop (64 * k)).take 64
theorem sec_getD (b : List UInt8) (k : Nat) {i : Nat} (hi : i < 64) : (secL b k).getD i 0 = b.getD (64 * k + i) 0 := by
 unfold secL
 rw [List.getD_eq_getElem?_getD, List.getElem?_take, if_pos hi, List.getElem?_drop, ← List.getD_eq_getElem?_getD]
theorem sec_at {a b : List UInt8} {k : Nat} (h : secL a k = secL b k) {i : Nat} (hi : i < 64) : a.getD (64 * k + i) 0 = b.getD (64 * k + i) 0 := by
 rw [← sec_getD a k hi, ← sec_getD b k hi, h]
theorem sec_ext {a b : List UInt8} (ha : a.length = 512) (hb : b.length = 512) (h : ∀ k, k < 8 → secL a k = secL b k) : a = b := by
 apply list_ext_getD (by omega)
 intro i hi
 have := sec_at (h (i / 64) (by omega)) (i := i % 64) (by omega)
 rw [show 64 * (i / 64) + i % 64 = i by omega] at this
 exact this
theorem usn_getD {b : List UInt8} (hb : b.length = 512) : usnL b = num [b.getD 40 0, b.getD 41 0] := by
 unfold usnL
 rw [take2_drop b 40 (by omega)]
theorem torn {F : List (List UInt8)} (hF : ∀ P ∈ F, P.length = 512 ∧ opB P = true) (hu : ∀ P ∈ F, ∀ Q ∈ F, usnL P = usnL Q → P = Q) {b : List UInt8} (hb : b.length = 512)
 (hs : ∀ k, k < 8 → secL b k = zerosL 64 ∨ ∃ P ∈ F, secL b k = secL P k) (ho : opB b = true) : b ∈ F ∧ ∀ k, k < 8 → ∀ P ∈ F, secL b k = secL P k → P = b := by
 obtain ⟨u0, ut⟩ := opB_tail hb ho
 have hz : ∀ k, k < 8 → secL b k ≠ zerosL 64 := fun k hk h => by
  apply u0
  have e1 := ut (64 * k + 62) (by omega) (by omega)
  have e2 := ut (64 * k + 63) (by omega) (by omega)
  rw [← sec_getD b k (by omega), h, zeros_getD, show (40 + ((64 * k + 62) % 64 - 62)) = 40 by omega] at e1
  rw [← sec_getD b k (by omega), h, zeros_getD, show (40 + ((64 * k + 63) % 64 - 62)) = 41 by omega] at e2
  rw [usn_getD hb, ← e1, ← e2]; rfl
 have hq : ∀ k, k < 8 → ∀ Q ∈ F, secL b k = secL Q k → usnL Q = usnL b := fun k hk Q hQ h => by
  obtain ⟨q1, q2⟩ := hF Q hQ
  obtain ⟨v0, vt⟩ := opB_tail q1 q2
  have e1 := ut (64 * k + 62) (by omega) (by omega)
  have e2 := ut (64 * k + 63) (by omega) (by omega)
  have f1 := vt (64 * k + 62) (by omega) (by omega)
  have f2 := vt (64 * k + 63) (by omega) (by omega)
  rw [show (40 + ((64 * k + 62) % 64 - 62)) = 40 by omega] at e1 f1
  rw [show (40 + ((64 * k + 63) % 64 - 62)) = 41 by omega] at e2 f2
  rw [usn_getD hb, usn_getD q1, ← e1, ← e2, ← f1, ← f2, sec_at h (by omega), sec_at h (by omega)]
 have h0 : ∃ P ∈ F, secL b 0 = secL P 0 := (hs 0 (by omega)).resolve_left (hz 0 (by omega))
 obtain ⟨P, hP, h0⟩ := h0
 have hall : b = P := by
  apply sec_ext hb (hF P hP).1
  intro k hk
  obtain ⟨Q, hQ, h1⟩ := (hs k hk).resolve_left (hz k hk)
  have h2 := hu Q hQ P hP (by rw [hq k hk Q hQ h1, hq 0 (by omega) P hP h0])
  rw [h1, h2]
 refine ⟨by rw [hall]; exact hP, fun k hk Q hQ h1 => ?_⟩
 rw [hall]
 exact hu Q hQ P hP (by rw [hq k hk Q hQ h1, hq 0 (by omega) P hP h0])
end Go.Proofs.YtmlilplbdpjfcaaGreatDoor
namespace Go.Proofs.YtmlilplbdpjfcaaGreatDoor
set_option linter.unusedVariables false
set_option linter.unusedSimpArgs false
set_option maxRecDepth 4000
open Go.RowKit
theorem rc_size {s : List UInt8} {pg : Nat} {top a aft : Int} {y : RecP} (h : rcIn s pg top a aft = some y) : 1 ≤ y.b.size := by
 obtain ⟨r1, r2, r3, r4, r5, r6, r7, r8⟩ := rc_seq h
 have hyb := bhR_in r5
 obtain ⟨b, hb⟩ := r6 _ (Nat.le_refl _) (by omega)
 unfold rcIn at h
 rw [if_neg (by omega), hb] at h
 simp only at h
 rw [if_neg (by omega), r7] at h
 simp only at h
 split at h
 · cases h
 · rename_i h3
   rw [Bool.not_eq_false, inB_true, nAt_take (by omega), (enc_parts r5).1] at h3
   omega
theorem by_congr {s s2 : List UInt8} {pg : Nat} {top top2 sq : Int} : ∀ (f c at' : Nat) (r : List UInt8), byIn s pg top sq f c at' = some r →
 (∀ (q : Nat) (b : List UInt8), at' / 448 ≤ q → q * 448 < at' + c → pgIn s pg top q = some (sq, b) → pgIn s2 pg top2 q = some (sq, b)) → byIn s2 pg top2 sq f c at' = some r
 | f, 0, at', r, h, _ => by
  have e : ∀ s top, byIn s pg top sq f 0 at' = some [] := fun s top => by cases f <;> rfl
  rw [e] at h ⊢; exact h
 | 0, c + 1, at', r, h, _ => by simp [byIn] at h
 | f + 1, c + 1, at', r, h, hx => by
  unfold byIn at h ⊢
  cases hp : pgIn s pg top (at' / 448) with
  | none => rw [hp] at h; simp at h
  | some v =>
   obtain ⟨q', b⟩ := v
   rw [hp] at h
   simp only at h
   split at h
   · simp at h
   · rename_i hc
     have hc1 : q' = sq := Classical.not_not.1 fun h => hc (.inl h)
     obtain ⟨r', hr, hr2⟩ := Option.map_eq_some_iff.1 h
     rw [hx (at' / 448) b (Nat.le_refl _) (by omega) (by rw [hp, hc1])]
     simp only
     rw [if_neg (by rw [← hc1] at hc ⊢; exact hc), by_congr f _ _ r' hr (fun q b q1 q2 => hx q b (by omega) (by omega)), Option.map_some, hr2]
theorem rc_congr {s s2 : List UInt8} {pg : Nat} {top top2 a aft : Int} {y : RecP} (h : rcIn s pg top a aft = some y)
 (hx : ∀ (q : Nat) (b : List UInt8), a.toNat / 448 ≤ q → (q : Int) * 448 < bhR y → pgIn s pg top q = some (y.s, b) → pgIn s2 pg top2 q = some (y.s, b)) : rcIn s2 pg top2 a aft = some y := by
 obtain ⟨r1, r2, r3, r4, r5, r6, r7, r8⟩ := rc_seq h
 have hz := rc_size h
 have hyb := bhR_in r5
 have hb := szR_in r5
 have hbh : bhR y = a + szR y.b.size := by unfold bhR; omega
 obtain ⟨b, hb⟩ := r6 _ (Nat.le_refl _) (by omega)
 have h7 := by_congr (s2 := s2) (top2 := top2) _ _ _ _ r7 fun q b q1 q2 => hx q b q1 (by omega)
 have h8 := by_congr (s2 := s2) (top2 := top2) _ _ _ _ r8 fun q b q1 q2 => hx q b q1 (by omega)
 obtain ⟨n1, n2⟩ := enc_parts r5
 unfold rcIn
 rw [if_neg (by omega), hx _ b (Nat.le_refl _) (by omega) hb]
 simp only
 rw [if_neg (by omega), h7]
 simp only
 rw [nAt_take (by omega), n1, if_neg (by rw [Bool.not_eq_false, inB_true]; omega), h8]
 simp only
 rw [Int.toNat_natCast, n2, bs_bl]
 have e : (⟨a + 1, y.s, y.b⟩ : RecP) = y := recP_ext r3.symm rfl rfl
 rw [e, if_pos rfl]
theorem pg_blk {s s2 : List UInt8} {pg : Nat} {top : Int} {q : Nat} (h : blkL s (2 + q % (pg - 2)) = blkL s2 (2 + q % (pg - 2))) : pgIn s pg top q = pgIn s2 pg top q := by
 unfold pgIn; rw [h]
theorem room_of (n : Nat) (hn : 0 < n) (q : Nat) : ∀ lo : Nat, ∃ q', lo ≤ q' ∧ q' < lo + n ∧ q' % n = q % n
 | 0 => ⟨q % n, by omega, by have := Nat.mod_lt q hn; omega, Nat.mod_mod ..⟩
 | lo + 1 => by
  obtain ⟨q', h1, h2, h3⟩ := room_of n hn q lo
  rcases Nat.lt_or_ge lo q' with h4 | h4
  · exact ⟨q', h4, by omega, h3⟩
  · exact ⟨q' + n, by omega, by omega, by rw [Nat.add_mod_right, h3]⟩
theorem room_one {n lo a b : Nat} (h1 : lo ≤ a) (h2 : a < lo + n) (h3 : lo ≤ b) (h4 : b < lo + n) (h : a % n = b % n) : a = b := by
 rcases Nat.lt_or_ge a b with h5 | h5
 · have : (b - a) % n = 0 := Nat.sub_mod_eq_zero_of_mod_eq h.symm
   rw [Nat.mod_eq_of_lt (by omega)] at this; omega
 · have : (a - b) % n = 0 := Nat.sub_mod_eq_zero_of_mod_eq h
   rw [Nat.mod_eq_of_lt (by omega)] at this; omega
theorem usnP_inj {q a b pg : Int} (ha : 0 ≤ a ∧ a ≤ 60001) (hb : 0 ≤ b ∧ b ≤ 60001) (h : usnP q a pg = usnP q b pg) : a = b := by
 unfold usnP at h; omega
structure Dsk (s : List UInt8) (pg lo : Nat) (top : Int) (F : Nat → List (Int × List UInt8)) : Prop where
 len : s.length = 512 * pg
 pgs : 4 ≤ pg ∧ pg ≤ 40
 lob : lo ≤ 300000
 tob : top ≤ 60001
 f : ∀ q, ∀ x ∈ F q, x.2.length ≤ 448 ∧ 0 ≤ x.1 ∧ x.1 ≤ top
 u : ∀ q, ∀ x ∈ F q, ∀ y ∈ F q, x.1 = y.1 → x = y
 sec : ∀ q, lo ≤ q → q < lo + (pg - 2) → ∀ k, k < 8 → secL (blkL s (2 + q % (pg - 2))) k = zerosL 64 ∨ ∃ x ∈ F q, secL (blkL s (2 + q % (pg - 2))) k = secL (pageL q x.1 pg x.2) k
variable {s s2 : List UInt8} {pg lo : Nat} {top : Int} {F : Nat → List (Int × List UInt8)}
theorem Dsk.blk (h : Dsk s pg lo top F) (q : Nat) : (blkL s (2 + q % (pg - 2))).length = 512 := blkL_length h.len (room_lt h.pgs.1)
theorem Dsk.whole (h : Dsk s pg lo top F) {q : Nat} (h1 : lo ≤ q) (h2 : q < lo + (pg - 2)) (ho : opB (blkL s (2 + q % (pg - 2))) = true) :
 (∃ x ∈ F q, blkL s (2 + q % (pg - 2)) = pageL q x.1 pg x.2) ∧ ∀ k, k < 8 → ∀ x ∈ F q, secL (blkL s (2 + q % (pg - 2))) k = secL (pageL q x.1 pg x.2) k → pageL q x.1 pg x.2 = blkL s (2 + q % (pg - 2)) := by
 have ht := torn (F := (F q).map fun x => pageL q x.1 pg x.2) ?_ ?_ (h.blk q) ?_ ho
 · obtain ⟨t1, t2⟩ := ht
   obtain ⟨x, hx, he⟩ := List.mem_map.1 t1
   exact ⟨⟨x, hx, he.symm⟩, fun k hk y hy he => t2 k hk _ (List.mem_map.2 ⟨y, hy, rfl⟩) he⟩
 · intro P hP
   obtain ⟨x, hx, rfl⟩ := List.mem_map.1 hP
   have hf := h.f q x hx
   exact ⟨pageL_length _ _ _ hf.1, (pageL_op _ _ _ hf.1).1⟩
 · intro P hP Q hQ he
   obtain ⟨x, hx, rfl⟩ := List.mem_map.1 hP
   obtain ⟨y, hy, rfl⟩ := List.mem_map.1 hQ
   have hf := h.f q x hx
   have hg := h.f q y hy
   have htop := h.tob
   rw [(pageL_op _ _ _ hf.1).2.2, (pageL_op _ _ _ hg.1).2.2] at he
   have := usnP_inj (by omega) (by omega) he
   rw [h.u q x hx y hy this]
 · intro k hk
   rcases h.sec q h1 h2 k hk with h3 | ⟨x, hx, h3⟩
   · exact .inl h3
   · exact .inr ⟨_, List.mem_map.2 ⟨x, hx, rfl⟩, h3⟩
theorem Dsk.in_ (h : Dsk s pg lo top F) {q : Nat} (hq : q < 4294967296) {t sq : Int} {c : List UInt8} (ht : t < 4294967296) (hp : pgIn s pg t q = some (sq, c)) :
 lo ≤ q ∧ q < lo + (pg - 2) ∧ (sq, c) ∈ F q ∧ blkL s (2 + q % (pg - 2)) = pageL q sq pg c := by
 obtain ⟨g1, g2, g3, g4, g5⟩ := pg_in_some h.len h.pgs.1 hp
 obtain ⟨q', h1, h2, h3⟩ := room_of (pg - 2) (by have := h.pgs; omega) q lo
 rw [← h3] at g1 g2
 obtain ⟨⟨x, hx, he⟩, _⟩ := h.whole h1 h2 g1
 rw [g2] at he
 have hf := h.f q' x hx
 have htop := h.tob
 have hlo := h.lob
 have hpg := h.pgs
 obtain ⟨e1, e2, e3⟩ := pageL_room g5 hf.1 ⟨by omega, by omega⟩ ⟨by omega, by omega⟩ hq (by omega) he
 rw [← e1] at h1 h2 hx g2
 refine ⟨h1, h2, ?_, g2⟩
 rw [e2, e3]; exact hx
theorem Dsk.top_ (h : Dsk s pg lo top F) {q : Nat} (hq : q < 4294967296) {t t' : Int} (ht : top ≤ t ∧ t < 4294967296) (ht' : top ≤ t' ∧ t' < 4294967296) : pgIn s pg t q = pgIn s pg t' q := by
 have key : ∀ {t t' : Int}, top ≤ t ∧ t < 4294967296 → top ≤ t' ∧ t' < 4294967296 → ∀ v, pgIn s pg t q = some v → pgIn s pg t' q = some v := fun {t t'} ht ht' v hv => by
  obtain ⟨sq, c⟩ := v
  obtain ⟨_, _, g2, g3, _⟩ := pg_in_some h.len h.pgs.1 hv
  obtain ⟨h1, h2, h3, h4⟩ := h.in_ hq ht.2 hv
  have hf := h.f q _ h3
  simp only at hf
  rw [pg_in_page h4 hf.1 hq hq ⟨g2, by have := h.tob; omega⟩, if_pos ⟨rfl, by omega⟩]
 cases e : pgIn s pg t q with
 | some v => rw [key ht ht' v e]
 | none =>
  cases e' : pgIn s pg t' q with
  | none => rfl
  | some v => rw [key ht' ht v e'] at e; cases e
structure Ovr (s s2 : List UInt8) (pg : Nat) (P : Nat → List UInt8) (qa qb : Nat) : Prop where
 len : s2.length = s.length
 sec : ∀ i, i < pg → ∀ k, k < 8 → secL (blkL s2 i) k = secL (blkL s i) k ∨ ∃ q, qa ≤ q ∧ q < qb ∧ i = 2 + q % (pg - 2) ∧ secL (blkL s2 i) k = secL (P q) k
theorem Ovr.refl (s : List UInt8) (pg : Nat) (P : Nat → List UInt8) (qa qb : Nat) : Ovr s s pg P qa qb := ⟨rfl, fun _ _ _ _ => .inl rfl⟩
theorem Ovr.blk {P : Nat → List UInt8} {qa qb : Nat} (h : Ovr s s2 pg P qa qb) (hl : s.length = 512 * pg) {i : Nat} (hi : i < pg) (hn : ∀ q, qa ≤ q → q < qb → i ≠ 2 + q % (pg - 2)) : blkL s2 i = blkL s i := by
 apply sec_ext (blkL_length (by rw [h.len, hl]) hi) (blkL_length hl hi)
 intro k hk
 rcases h.sec i hi k hk with h1 | ⟨q, h1, h2, h3, _⟩
 · exact h1
 · exact absurd h3 (hn q h1 h2)
theorem Dsk.ovr (h : Dsk s pg lo top F) {G : Nat → Int × List UInt8} {qa qb : Nat} (ho : Ovr s s2 pg (fun q => pageL q (G q).1 pg (G q).2) qa qb) (hqa : lo ≤ qa) (hqb : qb ≤ lo + (pg - 2))
 (hG : ∀ q, qa ≤ q → q < qb → (G q).2.length ≤ 448 ∧ 0 ≤ (G q).1 ∧ (G q).1 ≤ top ∧ ∀ x ∈ F q, x.1 ≠ (G q).1) :
 Dsk s2 pg lo top (fun q => if qa ≤ q ∧ q < qb then G q :: F q else F q) := by
 refine ⟨by rw [ho.len]; exact h.len, h.pgs, h.lob, h.tob, fun q x hx => ?_, fun q x hx y hy e => ?_, fun q h1 h2 k hk => ?_⟩
 · have hx : x ∈ (if qa ≤ q ∧ q < qb then G q :: F q else F q) := hx
   split at hx
   · rename_i hc
     rcases List.mem_cons.1 hx with rfl | hx
     · have := hG q hc.1 hc.2; exact ⟨this.1, this.2.1, this.2.2.1⟩
     · exact h.f q x hx
   · exact h.f q x hx
 · have hx : x ∈ (if qa ≤ q ∧ q < qb then G q :: F q else F q) := hx
   have hy : y ∈ (if qa ≤ q ∧ q < qb then G q :: F q else F q) := hy
   split at hx
   · rename_i hc
     rw [if_pos hc] at hy
     have hg := (hG q hc.1 hc.2).2.2.2
     rcases List.mem_cons.1 hx with rfl | hx <;> rcases List.mem_cons.1 hy with rfl | hy
     · rfl
     · exact absurd e.symm (hg y hy)
     · exact absurd e (hg x hx)
     · exact h.u q x hx y hy e
   · rename_i hc
     rw [if_neg hc] at hy
     exact h.u q x hx y hy e
 · have hi := room_lt (q := q) h.pgs.1
   rcases ho.sec _ hi k hk with h3 | ⟨q', a1, a2, a3, a4⟩
   · rw [h3]
     rcases h.sec q h1 h2 k hk with h4 | ⟨x, hx, h4⟩
     · exact .inl h4
     · refine .inr ⟨x, ?_, h4⟩
       show x ∈ (if qa ≤ q ∧ q < qb then G q :: F q else F q)
       split
       · exact List.mem_cons_of_mem _ hx
       · exact hx
   · have hqq : q = q' := room_one (n := pg - 2) h1 h2 (by omega) (by omega) (by omega)
     rw [← hqq] at a1 a2 a4
     refine .inr ⟨G q, ?_, a4⟩
     show G q ∈ (if qa ≤ q ∧ q < qb then G q :: F q else F q)
     rw [if_pos ⟨a1, a2⟩]
     exact List.mem_cons_self ..
theorem Dsk.old (h : Dsk s pg lo top F) {G : Nat → Int × List UInt8} {qa qb : Nat} (ho : Ovr s s2 pg (fun q => pageL q (G q).1 pg (G q).2) qa qb) (hqa : lo ≤ qa) (hqb : qb ≤ lo + (pg - 2))
 (hG : ∀ q, qa ≤ q → q < qb → (G q).2.length ≤ 448 ∧ 0 ≤ (G q).1 ∧ (G q).1 ≤ top ∧ ∀ x ∈ F q, x.1 ≠ (G q).1) {q : Nat} (hq : q < 4294967296) {t sq : Int} {c : List UInt8} (ht : t < 4294967296)
 (hp : pgIn s2 pg t q = some (sq, c)) (hn : qa ≤ q → q < qb → sq ≠ (G q).1) : pgIn s pg t q = some (sq, c) := by
 have h2 := h.ovr ho hqa hqb hG
 obtain ⟨h3, h4, h5, h6⟩ := h2.in_ hq ht hp
 have hop := (pg_in_some h2.len h2.pgs.1 hp).1
 rw [← pg_blk (s := s2), hp]
 have hi := room_lt (q := q) h.pgs.1
 apply sec_ext (h2.blk q) (h.blk q)
 intro k hk
 rcases ho.sec _ hi k hk with a0 | ⟨q', a1, a2, a3, a4⟩
 · exact a0
 · exfalso
   have hqq : q = q' := room_one (n := pg - 2) h3 h4 (by omega) (by omega) (by omega)
   rw [← hqq] at a1 a2 a4
   have hmem : G q ∈ (fun q => if qa ≤ q ∧ q < qb then G q :: F q else F q) q := by
    show G q ∈ (if qa ≤ q ∧ q < qb then G q :: F q else F q)
    rw [if_pos ⟨a1, a2⟩]
    exact List.mem_cons_self ..
   have h7 := (h2.whole h3 h4 hop).2 k hk (G q) hmem a4
   rw [h6] at h7
   have hg := hG q a1 a2
   have hf := h2.f q _ h5
   have htop := h.tob
   simp only at hf
   exact hn a1 a2 (pageL_room hg.1 hf.1 ⟨by omega, by omega⟩ ⟨by omega, by omega⟩ hq hq h7).2.1.symm
end Go.Proofs.YtmlilplbdpjfcaaGreatDoor
namespace Go.Proofs.YtmlilplbdpjfcaaGreatDoor
set_option linter.unusedVariables false
set_option linter.unusedSimpArgs false
set_option maxRecDepth 4000
open Go.RowKit Go.Sort
theorem fld_none {q : Int} : ∀ (l : List RecP) (st : List UInt8 × Int × Int), (∀ x ∈ l, toR q x ≤ frR q x) → l.foldl (pgStp q) st = st
 | [], _, _ => rfl
 | x :: l, st, h => by
  rw [List.foldl_cons, pgStp_eq, if_pos (h x (List.mem_cons_self ..))]
  exact fld_none l st fun y hy => h y (List.mem_cons_of_mem _ hy)
theorem fld_app {q : Int} (A B : List RecP) (h : ∀ x ∈ B, toR q x ≤ frR q x) : pgFld q (A ++ B) = pgFld q A := by
 unfold pgFld; rw [List.foldl_append, fld_none B _ h]
theorem usd_app {q : Int} (A B : List RecP) (h : ∀ x ∈ B, toR q x ≤ frR q x) : usdL q (A ++ B) = usdL q A := by
 unfold usdL; rw [fld_app A B h]
theorem Rsk.take {o S : Int} {l : List RecP} (h : Rsk o S l) (t : Nat) : Rsk o S (l.take t) := by
 refine ⟨h.1, fun m hm => ?_⟩
 rw [List.length_take] at hm
 have := h.2 m (by omega)
 rw [List.getElem_take]
 have e : bfrR (l.take t) m = bfrR l m := by
  unfold bfrR
  split
  · rfl
  · rw [List.getElem?_take, if_pos (by omega)]
 rw [e]; exact this
theorem usd_take {o S : Int} {l : List RecP} (h : Rsk o S l) (q : Int) (t : Nat) : ∀ (d : Nat), t + d ≤ l.length → usdL q (l.take t) <+: usdL q (l.take (t + d))
 | 0, _ => List.prefix_refl _
 | d + 1, hd => by
  refine (usd_take h q t d (by omega)).trans ?_
  obtain ⟨k, hk⟩ : ∃ k, k = t + d := ⟨_, rfl⟩
  rw [show t + (d + 1) = k + 1 by omega, ← hk]
  have hk1 : k < l.length := by omega
  rw [List.take_succ_eq_append_getElem hk1]
  by_cases hw : toR q l[k] ≤ frR q l[k]
  · rw [usd_app _ _ (fun x hx => by rw [List.mem_singleton.1 hx]; exact hw)]
    exact List.prefix_refl _
  · have hinv := pgK_inv (r := ⟨0, ⟨S, 0, o⟩, rst0, l, 0⟩) q h.2 h.1 k (by show k ≤ l.length; omega)
    obtain ⟨e, hI, hE⟩ := hinv
    have hE : e ≤ l[k].l - 1 := hE (show k < l.length by omega)
    have hI : PgI q (pgFld q (l.take k)) e := hI
    have hsz := (h.ok.sz k hk1).2
    have h1 := cutR_length hsz hw
    have h2 := room_in hw
    have hue := hI.ue
    have hu0 := hI.u0
    have hfr : frR q l[k] ≥ l[k].l - 1 ∧ frR q l[k] ≥ q * 448 := by unfold frR; omega
    have e1 : pgFld q (l.take k ++ [l[k]]) = pgStp q (pgFld q (l.take k)) l[k] := by unfold pgFld; rw [List.foldl_append]; rfl
    unfold usdL
    rw [e1, pgStp_eq, if_neg hw]
    show ((pgFld q (l.take k)).1.take (pgFld q (l.take k)).2.1.toNat) <+: (patL (pgFld q (l.take k)).1 (frR q l[k] - q * 448).toNat (cutR q l[k])).take (toR q l[k] - q * 448).toNat
    have e2 : (pgFld q (l.take k)).1.take (pgFld q (l.take k)).2.1.toNat = ((patL (pgFld q (l.take k)).1 (frR q l[k] - q * 448).toNat (cutR q l[k])).take (toR q l[k] - q * 448).toNat).take (pgFld q (l.take k)).2.1.toNat := by
     rw [List.take_take, Nat.min_eq_left (by omega)]
     apply list_ext_getD
     · rw [List.length_take, List.length_take, patL_length (by rw [hI.len]; omega)]
     · intro i hi
       rw [List.length_take] at hi
       rw [List.getD_eq_getElem?_getD, List.getElem?_take, if_pos (by omega), ← List.getD_eq_getElem?_getD, List.getD_eq_getElem?_getD (l := List.take _ (patL _ _ _)), List.getElem?_take, if_pos (by omega), ← List.getD_eq_getElem?_getD,
        patL_getD (by rw [hI.len]; omega), if_neg (by omega)]
    rw [e2]
    exact List.take_prefix ..
theorem room_rec {o S : Int} {l : List RecP} (h : Rsk o S l) {q : Int} : ∀ (k : Nat) (hk : k < l.length), q * 448 < bhR l[k] → (l[0]'(by omega)).l - 1 ≤ q * 448 → ∃ j, ∃ hj : j < l.length, j ≤ k ∧ frR q l[j] < toR q l[j]
 | 0, hk, h1, h2 => ⟨0, hk, Nat.le_refl _, by have := bhR_in (h.ok.sz 0 hk).2; unfold frR toR; omega⟩
 | k + 1, hk, h1, h2 => by
  by_cases h3 : q * 448 < bhR l[k]
  · obtain ⟨j, hj, h4, h5⟩ := room_rec h k (by omega) h3 h2
    exact ⟨j, hj, by omega, h5⟩
  · refine ⟨k + 1, hk, Nat.le_refl _, ?_⟩
    have h4 := (h.ok.nx k hk).1
    have h5 := nxtR_in (p := bhR l[k])
    have h6 := bhR_in (h.ok.sz (k + 1) hk).2
    have h7 : nxtR (bhR l[k]) ≤ q * 448 := by unfold nxtR; omega
    unfold frR toR; omega
structure LD (s : List UInt8) (r : RngP) (P : Nat) (F : Nat → List (Int × List UInt8)) : Prop where
 ok : OkP r
 cl : r.nx % 448 = 0
 hP : r.pg = P
 dk : Dsk s P ((r.r.o - 1) / 448).toNat r.r.s F
 rst : ∃ ea, rsIn s P = some (r.r, ea)
 px : ∀ k (h : k < r.rs.length) (q : Nat), frR q r.rs[k] < toR q r.rs[k] → PxP s P r.r.s q r.rs
 gp : ∀ k (h : k + 1 < r.rs.length), r.rs[k + 1].l - 1 = nxtR (bhR r.rs[k]) → Gap s P r.r.s r.rs[k] r.rs[k + 1].s
 ge : ∀ (h : 0 < r.rs.length), Gap s P r.r.s (r.rs[r.rs.length - 1]'(by omega)) r.r.s
 st : ∀ y, rcIn s P r.r.s r.nx (if h : 0 < r.rs.length then (r.rs[r.rs.length - 1]'(by omega)).s else 0) = some y → ∃ h : 0 < r.rs.length, bhR (r.rs[r.rs.length - 1]'(by omega)) % 448 ≠ 0 ∧ y.s ≤ (r.rs[r.rs.length - 1]'(by omega)).s ∧
  ∀ sq b, pgIn s P r.r.s ((bhR (r.rs[r.rs.length - 1]'(by omega))).toNat / 448) = some (sq, b) → (b.length : Int) ≠ bhR (r.rs[r.rs.length - 1]'(by omega)) % 448
 fs : ∀ q : Nat, r.nx ≤ q * 448 → ∀ x ∈ F q, x.1 < r.r.s
structure App (r N : RngP) : Prop where
 ok : OkP N
 pg : N.pg = r.pg
 rr : N.r = r.r
 pre : r.rs <+: N.rs
 new : ∀ k (h : k < N.rs.length), r.rs.length ≤ k → N.rs[k].s = r.r.s
 fst : ∀ h : r.rs.length < N.rs.length, N.rs[r.rs.length].l = r.nx + 1
theorem OkP.rsk {r : RngP} (h : OkP r) : Rsk r.r.o r.r.s r.rs := ⟨h.h.rr.2.2.2, h.all⟩
theorem App.get {r N : RngP} (h : App r N) {k : Nat} (hk : k < r.rs.length) : ∃ hk2 : k < N.rs.length, N.rs[k] = r.rs[k] := by
 obtain ⟨B, hB⟩ := h.pre
 have h1 : k < N.rs.length := by rw [← hB, List.length_append]; omega
 refine ⟨h1, ?_⟩
 have : N.rs[k]? = r.rs[k]? := by rw [← hB, List.getElem?_append_left hk]
 rw [List.getElem?_eq_getElem h1, List.getElem?_eq_getElem hk] at this
 injection this
theorem LD.nxe {s : List UInt8} {r : RngP} {P : Nat} {F : Nat → List (Int × List UInt8)} (h : LD s r P F) : (∀ h0 : 0 < r.rs.length, r.nx = nxtR (bhR (r.rs[r.rs.length - 1]'(by omega)))) ∧ (r.rs.length = 0 → r.nx = r.r.o - 1) := by
 obtain ⟨h1, h2⟩ := h.ok.next
 refine ⟨fun h0 => ?_, fun h0 => (h2 (List.eq_nil_of_length_eq_zero h0)).1⟩
 have h3 := (h1 _ (lastG h0)).1
 have h4 := h.cl
 rcases h3 with h3 | h3
 · rw [h3] at h4 ⊢
   unfold nxtR; omega
 · exact h3
def endQ (N : RngP) : Nat := ((roomsP N).1 + (roomsP N).2).toNat
theorem endQ_last {N : RngP} (h : OkP N) (h0 : 0 < N.rs.length) (q : Nat) : q < endQ N ↔ (q : Int) * 448 < bhR (N.rs[N.rs.length - 1]'(by omega)) := by
 have h1 := h.rcd (N.rs.length - 1) (by omega)
 have h2 := bhR_in h1.2.2
 unfold endQ roomsP
 rw [lastG h0]
 simp only
 omega
theorem endQ_nil {N : RngP} (h0 : N.rs.length = 0) : endQ N = 0 := by
 unfold endQ roomsP
 rw [List.eq_nil_of_length_eq_zero h0]; rfl
theorem endQ_le {N : RngP} (h : OkP N) {P : Nat} (hP : N.pg = P) : endQ N ≤ ((N.r.o - 1) / 448).toNat + (P - 2) := by
 rcases Nat.eq_zero_or_pos N.rs.length with h0 | h0
 · rw [endQ_nil h0]; omega
 · have h1 := h.tl.2.2
   have h2 := h.o1
   unfold endQ
   unfold roomsP at h1 ⊢
   rw [lastG h0] at h1 ⊢
   simp only at h1 ⊢
   omega
section
variable {s s2 : List UInt8} {r N : RngP} {P : Nat} {F : Nat → List (Int × List UInt8)}
def pgG (N : RngP) (q : Nat) : Int × List UInt8 := ((pgFld q N.rs).2.2, usdL q N.rs)
theorem LD.newR (h : LD s r P F) (a : App r N) {q : Nat} (h1 : (r.nx / 448).toNat ≤ q) (h2 : q < endQ N) : ∃ k, ∃ hk : k < N.rs.length, r.rs.length ≤ k ∧ frR q N.rs[k] < toR q N.rs[k] := by
 rcases Nat.eq_zero_or_pos N.rs.length with h0 | h0
 · rw [endQ_nil h0] at h2; omega
 rw [endQ_last a.ok h0] at h2
 have hnx := h.ok.h.nx
 have hcl := h.cl
 have hf := a.ok.head h0
 rw [a.rr] at hf
 have ho : r.r.o - 1 ≤ r.nx := by
  rcases Nat.eq_zero_or_pos r.rs.length with h3 | h3
  · have := h.nxe.2 h3; omega
  · have h4 := h.ok.head h3
    have h5 := h.ok.l_nx h3
    omega
 obtain ⟨j, hj, h3, h4⟩ := room_rec a.ok.rsk (q := q) (N.rs.length - 1) (by omega) h2 (by omega)
 refine ⟨j, hj, ?_, h4⟩
 rcases Nat.lt_or_ge j r.rs.length with h5 | h5
 · exfalso
   obtain ⟨_, h6⟩ := a.get h5
   have h7 := h.ok.bh_nx h5
   rw [← h6] at h7
   unfold frR toR at h4
   omega
 · exact h5
theorem LD.hG (h : LD s r P F) (a : App r N) : ∀ q, (r.nx / 448).toNat ≤ q → q < endQ N → (pgG N q).2.length ≤ 448 ∧ 0 ≤ (pgG N q).1 ∧ (pgG N q).1 ≤ r.r.s ∧ ∀ x ∈ F q, x.1 ≠ (pgG N q).1 := fun q h1 h2 => by
 obtain ⟨k, hk, h3, h4⟩ := h.newR a h1 h2
 have h5 := (usd_rec a.ok.rsk hk h4).1
 have h6 := a.new k hk h3
 have h7 := h.ok.h.rr.1
 have hcl := h.cl
 have hnx := h.ok.h.nx
 refine ⟨(usdL_length a.ok.rsk q).2, ?_, ?_, fun x hx => ?_⟩
 · show 0 ≤ (pgFld q N.rs).2.2; omega
 · show (pgFld q N.rs).2.2 ≤ _; omega
 · show x.1 ≠ (pgFld q N.rs).2.2
   have := h.fs q (by omega) x hx
   omega
def newF (F : Nat → List (Int × List UInt8)) (N : RngP) (qa : Nat) : Nat → List (Int × List UInt8) := fun q => if qa ≤ q ∧ q < endQ N then pgG N q :: F q else F q
theorem LD.ovG (h : LD s r P F) (a : App r N) (ho : Ovr s s2 P (fun q => pgR N q) (r.nx / 448).toNat (endQ N)) : Ovr s s2 P (fun q => pageL q (pgG N q).1 P (pgG N q).2) (r.nx / 448).toNat (endQ N) := by
 have e : (fun q : Nat => pgR N q) = fun q : Nat => pageL q (pgG N q).1 P (pgG N q).2 := by
  funext q
  rw [pgR_page N a.ok.rsk, a.pg, h.hP]; rfl
 rw [← e]; exact ho
theorem LD.qa (h : LD s r P F) : ((r.r.o - 1) / 448).toNat ≤ (r.nx / 448).toNat ∧ ((r.nx / 448).toNat : Int) * 448 = r.nx := by
 have hnx := h.ok.h.nx
 have hcl := h.cl
 have ho : r.r.o - 1 ≤ r.nx := by
  rcases Nat.eq_zero_or_pos r.rs.length with h3 | h3
  · have := h.nxe.2 h3; omega
  · have h4 := h.ok.head h3
    have h5 := h.ok.l_nx h3
    omega
 omega
theorem LD.qb (h : LD s r P F) (a : App r N) : endQ N ≤ ((r.r.o - 1) / 448).toNat + (P - 2) := by
 have := endQ_le a.ok (a.pg.trans h.hP)
 rw [a.rr] at this; exact this
theorem LD.dsk (h : LD s r P F) (a : App r N) (ho : Ovr s s2 P (fun q => pgR N q) (r.nx / 448).toNat (endQ N)) : Dsk s2 P ((r.r.o - 1) / 448).toNat r.r.s (newF F N (r.nx / 448).toNat) :=
 h.dk.ovr (h.ovG a ho) h.qa.1 (h.qb a) (h.hG a)
theorem LD.oldP (h : LD s r P F) (a : App r N) (ho : Ovr s s2 P (fun q => pgR N q) (r.nx / 448).toNat (endQ N)) {q : Nat} (hq : q < 4294967296) {sq : Int} {c : List UInt8} (hp : pgIn s2 P r.r.s q = some (sq, c)) (hn : (q : Int) * 448 < r.nx ∨ sq < r.r.s) :
 pgIn s P r.r.s q = some (sq, c) := by
 have h7 := h.ok.h.rr.1
 have hqa := h.qa.2
 refine h.dk.old (h.ovG a ho) h.qa.1 (h.qb a) (h.hG a) hq (by omega) hp fun h1 h2 => ?_
 obtain ⟨k, hk, h3, h4⟩ := h.newR a h1 h2
 have h5 := (usd_rec a.ok.rsk hk h4).1
 have h6 := a.new k hk h3
 show sq ≠ (pgFld q N.rs).2.2
 omega
theorem LD.low (h : LD s r P F) (a : App r N) (ho : Ovr s s2 P (fun q => pgR N q) (r.nx / 448).toNat (endQ N)) {q : Nat} (h1 : (r.r.o - 1) / 448 ≤ q) (h2 : (q : Int) * 448 < r.nx) : pgIn s2 P r.r.s q = pgIn s P r.r.s q := by
 have hqa := h.qa
 have hqb := h.qb a
 have hpg := h.dk.pgs
 refine pg_blk (ho.blk h.dk.len (room_lt hpg.1) fun q' h3 h4 h5 => ?_)
 by_cases h6 : q < ((r.r.o - 1) / 448).toNat + (P - 2)
 · have := room_one (n := P - 2) (lo := ((r.r.o - 1) / 448).toNat) (a := q) (b := q') (by omega) h6 (by omega) (by omega) (by omega)
   omega
 · omega
theorem LD.recQ (h : LD s r P F) {k : Nat} (hk : k < r.rs.length) {q : Nat} (hw : frR q r.rs[k] < toR q r.rs[k]) : (r.r.o - 1) / 448 ≤ q ∧ (q : Int) * 448 < r.nx := by
 have h1 := h.ok.bh_nx hk
 have h2 := h.ok.head (by omega)
 have h3 := h.ok.le (i := 0) (j := k) (by omega) hk
 unfold frR toR at hw
 omega
theorem LD.endR (h : LD s r P F) {k : Nat} (hk : k < r.rs.length) (h0 : bhR r.rs[k] % 448 ≠ 0) : frR ((bhR r.rs[k]).toNat / 448 : Nat) r.rs[k] < toR ((bhR r.rs[k]).toNat / 448 : Nat) r.rs[k] := by
 have h1 := h.ok.rcd k hk
 have h2 := bhR_in h1.2.2
 unfold frR toR
 omega
theorem LD.gap (h : LD s r P F) (a : App r N) (ho : Ovr s s2 P (fun q => pgR N q) (r.nx / 448).toNat (endQ N)) {k : Nat} (hk : k < r.rs.length) {T : Int} (hT : T ≤ r.r.s) (g : Gap s P r.r.s r.rs[k] T) : Gap s2 P r.r.s r.rs[k] T := by
 intro h0
 obtain ⟨g1, g2⟩ := g h0
 have hw := h.endR hk h0
 obtain ⟨l1, l2⟩ := h.recQ hk hw
 have hlow := h.low a ho l1 l2
 refine ⟨?_, by rw [hlow]; exact g2⟩
 rcases g2 with g2 | ⟨sq, b, g2, g3⟩
 · rw [Option.eq_none_iff_forall_not_mem]
   intro y hy
   obtain ⟨r1, r2, r3, r4, r5, r6, r7, r8⟩ := rc_seq hy
   have hyb := bhR_in r5
   have hbd := h.ok.rcd k hk
   have hbk := bhR_in hbd.2.2
   obtain ⟨b, hb⟩ := r6 _ (Nat.le_refl _) (by omega)
   obtain ⟨c, hc, _⟩ := h.px k hk _ hw
   rw [hlow, hc] at hb
   injection hb with hb
   injection hb with hb _
   have hu := (usd_rec h.ok.rsk hk hw).1
   have hlen := h.ok.h.len
   rw [rc_congr (s2 := s) (top2 := r.r.s) hy fun q b q1 q2 q3 => h.oldP a ho (by omega) q3 (.inr (by omega))] at g1
   cases g1
 · rw [← hlow] at g2
   exact rc_short g2 (by omega)
theorem LD.rdg (h : LD s r P F) (a : App r N) (ho : Ovr s s2 P (fun q => pgR N q) (r.nx / 448).toNat (endQ N)) : Rdg s2 P r.r.s r.r.o r.r.s r.r.s N.rs r.rs.length (r.nx / 448).toNat := by
 have hml : r.rs.length ≤ N.rs.length := a.pre.length_le
 have hrsk := a.ok.rsk
 rw [a.rr] at hrsk
 have hqa := h.qa
 have hnxe := h.nxe
 have hd := h.dsk a ho
 have hs := h.ok.h.rr.1
 have hnx := h.ok.h.nx
 have last : ∀ h0 : 0 < r.rs.length, N.rs[r.rs.length - 1]'(by omega) = r.rs[r.rs.length - 1]'(by omega) := fun h0 => (a.get (k := r.rs.length - 1) (by omega)).2
 refine ⟨hrsk, hml, a.ok.h.len, fun h0 => ?_, fun h0 => ?_, fun k hk hm => ⟨?_, a.new k hk hm⟩, fun k hk q hw => ?_, fun k hk hx => ?_, fun h0 => ?_, fun q hq hq2 => ?_, fun y hy => ?_⟩
 · rw [last h0, hqa.2]; exact hnxe.1 h0
 · rw [hqa.2]; exact hnxe.2 h0
 · rw [hqa.2]
   have h1 := a.fst (by omega)
   have h2 := a.ok.le (i := r.rs.length) (j := k) hm hk
   omega
 · obtain ⟨_, e⟩ := a.get hk
   rw [e] at hw
   obtain ⟨c, hc, hp⟩ := h.px k hk q hw
   obtain ⟨l1, l2⟩ := h.recQ hk hw
   have hf : pgFld q N.rs = pgFld q r.rs := by
    obtain ⟨B, hB⟩ := a.pre
    rw [← hB]
    refine fld_app r.rs B fun x hx => ?_
    obtain ⟨i, hi, rfl⟩ := List.getElem_of_mem hx
    have h1 : r.rs.length + i < N.rs.length := by rw [← hB, List.length_append]; omega
    have h2 : N.rs[r.rs.length + i] = B[i] := by
     have : N.rs[r.rs.length + i]? = B[i]? := by rw [← hB, List.getElem?_append_right (by omega), Nat.add_sub_cancel_left]
     rw [List.getElem?_eq_getElem h1, List.getElem?_eq_getElem hi] at this
     injection this
    have h3 := a.fst (by omega)
    have h4 := a.ok.le (i := r.rs.length) (j := r.rs.length + i) (by omega) h1
    rw [h2] at h4
    have := hqa.2
    unfold frR toR
    omega
   have hu : usdL q N.rs = usdL q r.rs := by unfold usdL; rw [hf]
   exact ⟨c, by rw [h.low a ho l1 l2, hc, hf], by rw [hu]; exact hp⟩
 · obtain ⟨_, e⟩ := a.get (k := k) (by omega)
   obtain ⟨_, e2⟩ := a.get hk
   rw [e, e2] at hx ⊢
   exact h.gap a ho (by omega) (h.ok.rsk.ok.sq (k + 1) hk).2 (h.gp k hk hx)
 · rw [last h0]
   exact h.gap a ho (by omega) (Int.le_refl _) (h.ge h0)
 · cases hp : pgIn s2 P r.r.s q with
   | none => exact .inl rfl
   | some v =>
    right
    obtain ⟨sq, c⟩ := v
    obtain ⟨d1, d2, d3, d4⟩ := hd.in_ hq2 (by omega) hp
    unfold newF at d3
    split at d3
    · rename_i hc
      rcases List.mem_cons.1 d3 with d5 | d5
      · left
        obtain ⟨k, hk, h3, h4⟩ := h.newR a hc.1 hc.2
        refine ⟨?_, k, hk, h3, h4⟩
        unfold ExP
        rw [hp, d5]; rfl
      · exact .inr ⟨sq, c, rfl, h.fs q (by omega) _ d5⟩
    · exact .inr ⟨sq, c, rfl, h.fs q (by omega) _ d3⟩
 · by_cases hT : r.r.s ≤ y.s
   · exact .inl hT
   · right
     rw [hqa.2] at hy
     obtain ⟨r1, r2, r3, r4, r5, r6, r7, r8⟩ := rc_seq hy
     have hyb := bhR_in r5
     have hc := rc_congr (s2 := s) (top2 := r.r.s) hy fun q b q1 q2 q3 => h.oldP a ho (by omega) q3 (.inr (by omega))
     have hst := h.st y (by
      by_cases h0 : 0 < r.rs.length
      · rw [dif_pos h0] at hc ⊢
        rw [last h0] at hc
        exact hc
      · rw [dif_neg h0] at hc ⊢; exact hc)
     obtain ⟨h0, k1, k2, k3⟩ := hst
     refine ⟨h0, ?_⟩
     rw [last h0]
     refine ⟨k1, k2, fun sq b hb => k3 sq b ?_⟩
     have hw := h.endR (k := r.rs.length - 1) (by omega) k1
     obtain ⟨l1, l2⟩ := h.recQ (by omega) hw
     rw [← h.low a ho l1 l2]; exact hb
end
end Go.Proofs.YtmlilplbdpjfcaaGreatDoor
namespace Go.Proofs.YtmlilplbdpjfcaaGreatDoor
set_option linter.unusedVariables false
set_option linter.unusedSimpArgs false
set_option maxRecDepth 4000
open Go.RowKit Go.Sort
def rdN (N : RngP) (ea : RstP) (t : Nat) : RngP := ⟨N.pg, N.r, ea, N.rs.take t, match (N.rs.take t).getLast? with | none => N.r.o - 1 | some x => nxtR (bhR x)⟩
theorem rdN_last {N : RngP} {t : Nat} (h0 : 0 < t) (ht : t ≤ N.rs.length) : (N.rs.take t).getLast? = some (N.rs[t - 1]'(by omega)) := by
 have h1 : (N.rs.take t).length = t := by rw [List.length_take]; omega
 rw [lastG (l := N.rs.take t) (by omega), List.getElem_take]
 simp only [h1]
theorem rdN_nx {N : RngP} (ea : RstP) {t : Nat} (h0 : 0 < t) (ht : t ≤ N.rs.length) : (rdN N ea t).nx = nxtR (bhR (N.rs[t - 1]'(by omega))) := by
 unfold rdN
 rw [rdN_last h0 ht]
theorem rs_ea {s : List UInt8} {pg : Int} {la ea : RstP} (h : rsIn s pg = some (la, ea)) : ea = rst0 ∨ (rstB ea = true ∧ ea.s = la.s - 1) := by
 unfold rsIn at h
 cases h0 : arIn s pg 0 with
 | none =>
  rw [h0] at h
  cases h1 : arIn s pg 1 with
  | none => rw [h1] at h; simp at h
  | some y => rw [h1] at h; simp only [Option.some.injEq, Prod.mk.injEq] at h; exact .inl h.2.symm
 | some x =>
  rw [h0] at h
  cases h1 : arIn s pg 1 with
  | none => rw [h1] at h; simp only [Option.some.injEq, Prod.mk.injEq] at h; exact .inl h.2.symm
  | some y =>
   rw [h1] at h
   simp only at h
   have b0 := arB_ok h0
   have b1 := arB_ok h1
   split at h <;> simp only [Option.some.injEq, Prod.mk.injEq] at h <;> obtain ⟨rfl, h⟩ := h <;> split at h
   · right; rw [← h]; exact ⟨b0, by assumption⟩
   · exact .inl h.symm
   · right; rw [← h]; exact ⟨b1, by assumption⟩
   · exact .inl h.symm
section
variable {s s2 s3 : List UInt8} {r N : RngP} {P : Nat} {F : Nat → List (Int × List UInt8)}
theorem rs_blk {pg : Int} (h : ∀ i, i < 2 → blkL s2 i = blkL s i) : rsIn s2 pg = rsIn s pg := by
 have e : ∀ i, i < 2 → arIn s2 pg i = arIn s pg i := fun i hi => by unfold arIn; rw [h i hi]
 unfold rsIn
 rw [e 0 (by omega), e 1 (by omega)]
theorem LD.read (h : LD s r P F) (a : App r N) (ho : Ovr s s2 P (fun q => pgR N q) (r.nx / 448).toNat (endQ N)) : ∃ ea t, r.rs.length ≤ t ∧ t ≤ N.rs.length ∧ inV s2 = (rdN N ea t, 0) ∧ (ea = rst0 ∨ (rstB ea = true ∧ ea.s = r.r.s - 1)) ∧
 (t = 0 → rcIn s2 P r.r.s (r.r.o - 1) 0 = none) ∧ (∀ (h0 : 0 < t) (h1 : t - 1 < N.rs.length), afIn s2 P r.r.s N.rs[t - 1] = none) ∧ (∀ j (hj : j < t) (hj2 : j < N.rs.length), AllP s2 P r.r.s N.rs N.rs[j]) ∧ rsIn s P = some (r.r, ea) := by
 have hR := h.rdg a ho
 obtain ⟨t, t1, t2, t3, t4, t5, t6⟩ := hR.all
 obtain ⟨ea, hea⟩ := h.rst
 have hpg := h.dk.pgs
 have hl2 : s2.length = 512 * P := by rw [ho.len]; exact h.dk.len
 have hrs : rsIn s2 P = some (r.r, ea) := by
  rw [rs_blk (s := s) fun i hi => ho.blk h.dk.len (by omega) fun q _ _ => by omega]
  exact hea
 refine ⟨ea, t, t1, t2, ?_, rs_ea hea, t4, fun h0 h1 => t5 h0, fun j hj hj2 => t6 j hj, hea⟩
 unfold inV
 have e1 : s2.length / 512 = P := by omega
 have e2 : ¬ (s2.length % 512 ≠ 0 ∨ pgsE ((s2.length / 512 : Nat) : Int) ≠ 0) := by
  rw [e1]
  have : pgsE (P : Int) = 0 := by unfold pgsE; rw [unl_zero (by decide), inB_true]; omega
  rw [this]; omega
 rw [if_neg e2, e1, hrs]
 simp only
 rw [t3]
 simp only
 unfold rdN
 rw [a.pg, a.rr, h.hP]
 cases (List.take t N.rs).getLast? <;> rfl
theorem hasR_take {l : List RecP} {n : Int} {m t : Nat} (h : hasR (l.take m) n = true) (hmt : m ≤ t) : hasR (l.take t) n = true := by
 unfold hasR at h ⊢
 rw [List.any_eq_true] at h ⊢
 obtain ⟨x, hx, he⟩ := h
 refine ⟨x, ?_, he⟩
 have : l.take m = (l.take t).take m := by rw [List.take_take, Nat.min_eq_left hmt]
 rw [this] at hx
 exact List.mem_of_mem_take hx
theorem LD.readOk (h : LD s r P F) (a : App r N) {ea : RstP} {t : Nat} (h1 : r.rs.length ≤ t) (h2 : t ≤ N.rs.length) (h3 : ea = rst0 ∨ (rstB ea = true ∧ ea.s = r.r.s - 1)) :
 if (rdN N ea t).nx ≤ 100000000 then OkP (rdN N ea t) else (chkR (rdN N ea t)).2 = 2 ∧ cloE N ≠ 0 := by
 have hq := h.qa
 have hN := a.ok.h
 have hl : (N.rs.take t).length = t := by rw [List.length_take]; omega
 have hnx : 0 ≤ (rdN N ea t).nx ∧ (rdN N ea t).nx % 448 = 0 := by
  rcases Nat.eq_zero_or_pos t with h0 | h0
  · have h4 : r.rs.length = 0 := by omega
    have h5 := h.nxe.2 h4
    have h6 := h.ok.o1
    have h7 : (rdN N ea t).nx = N.r.o - 1 := by unfold rdN; rw [h0]; rfl
    rw [h7, a.rr]
    have := h.cl
    omega
  · rw [rdN_nx ea h0 h2]
    have h4 := a.ok.rcd (t - 1) (by omega)
    have h5 := bhR_in h4.2.2
    have h6 := nxtR_in (p := bhR (N.rs[t - 1]'(by omega)))
    omega
 split
 · rename_i hle
   refine ⟨⟨hN.pg, hN.rb, hN.rr, ?_, ⟨hnx.1, hle, by omega⟩, ?_⟩, (a.ok.rsk.take t).2, ?_⟩
   · show ea = rst0 ∨ (rstB ea = true ∧ ea.s = N.r.s - 1)
     rw [a.rr]; exact h3
   · show (N.rs.take t).length ≤ 100
     have := hN.len; omega
   · unfold tailE
     rw [firstE_zero]
     intro e he
     simp only [List.mem_cons, List.not_mem_nil, or_false] at he
     rcases he with rfl | rfl | rfl
     · unfold nextE
       rcases Nat.eq_zero_or_pos t with h0 | h0
       · have h4 : (rdN N ea t).rs.getLast? = none := by unfold rdN; rw [h0]; rfl
         rw [h4]
         simp only
         rw [unl_zero (by decide), Bool.and_eq_true, beq_iff_eq, beq_iff_eq]
         exact ⟨by unfold rdN; rw [h0]; rfl, hnx.2⟩
       · have h4 : (rdN N ea t).rs.getLast? = some (N.rs[t - 1]'(by omega)) := rdN_last h0 h2
         rw [h4]
         simp only
         rw [unl_zero (by decide), rdN_nx ea h0 h2]
         rw [rdN_nx ea h0 h2] at hnx
         simp [hnx.2]
     · rw [unl_zero (by decide), Bool.or_eq_true, beq_iff_eq]
       show N.r.c = 0 ∨ hasR (N.rs.take t) N.r.c = true
       rw [a.rr]
       rcases h.ok.tl.2.1 with h4 | h4
       · exact .inl h4
       · right
         obtain ⟨B, hB⟩ := a.pre
         have h5 : N.rs.take r.rs.length = r.rs := by rw [← hB, List.take_left]
         rw [← h5] at h4
         exact hasR_take h4 h1
     · rw [unl_zero (by decide), decide_eq_true_eq]
       have h5 := a.ok.tl.2.2
       refine Int.le_trans ?_ h5
       unfold roomsP
       rcases Nat.eq_zero_or_pos t with h0 | h0
       · have h4 : (rdN N ea t).rs.getLast? = none := by unfold rdN; rw [h0]; rfl
         rw [h4]
         have := a.ok.rooms_pos
         unfold roomsP at this
         exact this
       · have h4 : (rdN N ea t).rs.getLast? = some (N.rs[t - 1]'(by omega)) := rdN_last h0 h2
         rw [h4, lastG (l := N.rs) (by omega)]
         show (bhR (N.rs[t - 1]'(by omega)) - 1) / 448 - (N.r.o - 1) / 448 + 1 ≤ (bhR (N.rs[N.rs.length - 1]'(by omega)) - 1) / 448 - (N.r.o - 1) / 448 + 1
         have h6 : bhR (N.rs[t - 1]'(by omega)) ≤ bhR (N.rs[N.rs.length - 1]'(by omega)) := by
          rcases Nat.lt_or_ge (t - 1) (N.rs.length - 1) with h7 | h7
          · have h8 := a.ok.rsk.ok.mono (t - 1) (N.rs.length - 1) (by omega) h7
            have h9 := bhR_in (a.ok.rcd (N.rs.length - 1) (by omega)).2.2
            omega
          · have : t - 1 = N.rs.length - 1 := by omega
            simp only [this]; exact Int.le_refl _
         omega
 · rename_i hgt
   have h0 : 0 < t := by
    rcases Nat.eq_zero_or_pos t with h0 | h0
    · exfalso
      have h7 : (rdN N ea t).nx = N.r.o - 1 := by unfold rdN; rw [h0]; rfl
      have := hN.rr
      omega
    · exact h0
   constructor
   · have h4 : headE (rdN N ea t) = 2 := by
      have e1 : pgsE (rdN N ea t).pg = 0 := by unfold pgsE; rw [unl_zero (by decide), inB_true]; exact hN.pg
      have e2 : rstE (rdN N ea t).r = 0 := by unfold rstE; rw [unl_zero (by decide)]; exact hN.rb
      have e3 : earE (rdN N ea t) = 0 := by
       unfold earE
       split
       · rfl
       · rename_i hne
         rcases h3 with h3 | h3
         · exact absurd h3 hne
         · rw [firstE_zero]
           intro e he
           simp only [List.mem_cons, List.not_mem_nil, or_false] at he
           rcases he with rfl | rfl
           · unfold rstE; rw [unl_zero (by decide)]; exact h3.1
           · rw [unl_zero (by decide), beq_iff_eq]
             show ea.s = N.r.s - 1
             rw [a.rr]; exact h3.2
      have e4 : (posB (rdN N ea t).nx && (rdN N ea t).nx % 8 == 0) = false := by
       rw [Bool.and_eq_false_iff]
       left
       rw [← Bool.not_eq_true]
       unfold posB
       rw [inB_true]; omega
      unfold headE
      rw [e1, e2, e3, e4]; rfl
     unfold chkR
     rw [h4, if_pos (by decide)]
   · unfold cloE
     rw [Ne, unl_zero (by decide), decide_eq_true_eq]
     rw [rdN_nx ea h0 h2] at hgt
     have h4 := a.ok.bh_nx (k := t - 1) (by omega)
     have : nxtR (bhR (N.rs[t - 1]'(by omega))) ≤ nxtR N.nx := by unfold nxtR; omega
     omega
end
end Go.Proofs.YtmlilplbdpjfcaaGreatDoor
namespace Go.Proofs.YtmlilplbdpjfcaaGreatDoor
set_option linter.unusedVariables false
set_option linter.unusedSimpArgs false
set_option maxRecDepth 4000
open Go.RowKit Go.Sort
section
variable {s s2 s3 : List UInt8} {r N : RngP} {P : Nat} {F : Nat → List (Int × List UInt8)}
theorem rc_none_congr {top top2 a aft : Int} (h : rcIn s P top a aft = none) (ha : a < 2000000000) (hx : ∀ q : Nat, q < 4294967296 → pgIn s2 P top2 q = pgIn s P top q) : rcIn s2 P top2 a aft = none := by
 cases hy : rcIn s2 P top2 a aft with
 | none => rfl
 | some y =>
  obtain ⟨r1, r2, r3, r4, r5, r6, r7, r8⟩ := rc_seq hy
  have hyb := bhR_in r5
  rw [rc_congr (s2 := s) (top2 := top) hy fun q b q1 q2 q3 => by rw [← hx q (by omega)]; exact q3] at h
  cases h
theorem rc_same {top top2 a aft : Int} (ha : a < 2000000000) (hx : ∀ q : Nat, q < 4294967296 → pgIn s2 P top2 q = pgIn s P top q) : rcIn s2 P top2 a aft = rcIn s P top a aft := by
 cases hy : rcIn s P top a aft with
 | none => exact rc_none_congr hy ha hx
 | some y =>
  obtain ⟨r1, r2, r3, r4, r5, r6, r7, r8⟩ := rc_seq hy
  have hyb := bhR_in r5
  exact rc_congr hy fun q b q1 q2 q3 => by rw [hx q (by omega)]; exact q3
theorem Gap.congr {top top2 : Int} {x : RecP} {T : Int} (h : Gap s P top x T) (hb : bhR x < 2000000000) (hx : ∀ q : Nat, q < 4294967296 → pgIn s2 P top2 q = pgIn s P top q) : Gap s2 P top2 x T := by
 intro h0
 obtain ⟨h1, h2⟩ := h h0
 rw [rc_same hb hx, hx _ (by omega)]
 exact ⟨h1, h2⟩
theorem af_stop {top : Int} {x : RecP} (h : afIn s P top x = none) (hpx : bhR x % 448 ≠ 0 → ∃ b, pgIn s P top ((bhR x).toNat / 448) = some (x.s, b)) (h0 : 0 ≤ bhR x) :
 (bhR x % 448 ≠ 0 → rcIn s P top (bhR x) x.s = none) ∧ ∀ y, rcIn s P top (nxtR (bhR x)) x.s = some y → bhR x % 448 ≠ 0 ∧ y.s ≤ x.s ∧ ∀ sq b, pgIn s P top ((bhR x).toNat / 448) = some (sq, b) → (b.length : Int) ≠ bhR x % 448 := by
 have hn0 : bhR x % 448 = 0 → nxtR (bhR x) = bhR x := by unfold nxtR; omega
 unfold afIn at h
 by_cases h1 : bhR x % 448 = 0
 · refine ⟨fun h => absurd h1 h, fun y hy => ?_⟩
   rw [hn0 h1] at hy
   rw [hy, Option.filter_some_pos (by simp [h1])] at h
   cases h
 · have hnone : rcIn s P top (bhR x) x.s = none := by
    cases hy : rcIn s P top (bhR x) x.s with
    | none => rfl
    | some y =>
     exfalso
     obtain ⟨r1, r2, r3, r4, r5, r6, r7, r8⟩ := rc_seq hy
     have hyb := bhR_in r5
     obtain ⟨b, hb⟩ := r6 _ (Nat.le_refl _) (by omega)
     obtain ⟨c, hc⟩ := hpx h1
     rw [hc] at hb
     injection hb with hb
     injection hb with hb _
     rw [hy, Option.filter_some_pos (by simp; right; omega)] at h
     cases h
   refine ⟨fun _ => hnone, fun y hy => ⟨h1, ?_⟩⟩
   rw [hnone, Option.filter_none] at h
   simp only at h
   rw [if_neg h1, hy] at h
   simp only at h
   split at h
   · cases h
   · rename_i h2
     refine ⟨by omega, fun sq b hb => ?_⟩
     rw [hb] at h
     simp only at h
     split at h
     · cases h
     · assumption
theorem LD.next (h : LD s r P F) (a : App r N) (ho : Ovr s s2 P (fun q => pgR N q) (r.nx / 448).toNat (endQ N)) {ea : RstP} {t : Nat} (h1 : r.rs.length ≤ t) (h2 : t ≤ N.rs.length)
 (hok : OkP (rdN N ea t)) (h0t : t = 0 → rcIn s2 P r.r.s (r.r.o - 1) 0 = none) (hst : ∀ (h0 : 0 < t) (h1 : t - 1 < N.rs.length), afIn s2 P r.r.s N.rs[t - 1] = none) (hall : ∀ j (hj : j < t) (hj2 : j < N.rs.length), AllP s2 P r.r.s N.rs N.rs[j])
 {c : Int} (hz : rsaE (rdN N ea t) c r.r.o = 0) (hl : s3.length = s2.length) (hb : ∀ i, 2 ≤ i → i < P → blkL s3 i = blkL s2 i) (hr3 : ∃ e, rsIn s3 P = some ((rsaV (rdN N ea t) c r.r.o).r, e)) :
 LD s3 (rsaV (rdN N ea t) c r.r.o) P (newF F N (r.nx / 448).toNat) := by
 have hR := h.rdg a ho
 have hd := h.dsk a ho
 have hs := h.ok.h.rr.1
 have hN := a.ok.h
 have hlen : (N.rs.take t).length = t := by rw [List.length_take]; omega
 have hrs : (rsaV (rdN N ea t) c r.r.o).rs = N.rs.take t := by
  show (N.rs.take t).filter (fun x => decide (r.r.o ≤ x.l)) = N.rs.take t
  rcases Nat.eq_zero_or_pos t with h3 | h3
  · rw [h3]; rfl
  · have h4 := hok.from_ (k := 0) (by show 0 < (N.rs.take t).length; omega)
    have h5 := hok.head (by show 0 < (N.rs.take t).length; omega)
    rw [h5] at h4
    show (N.rs.take t).filter (fun x => decide (r.r.o ≤ x.l)) = N.rs.take t
    rw [← a.rr]; exact h4
 have hps : (rsaV (rdN N ea t) c r.r.o).r.s = r.r.s + 1 := by show N.r.s + 1 = _; rw [a.rr]
 have hpo : (rsaV (rdN N ea t) c r.r.o).r.o = r.r.o := rfl
 have hnx : (rsaV (rdN N ea t) c r.r.o).nx = nxtR (rdN N ea t).nx := rfl
 have hnx2 : (rdN N ea t).nx % 448 = 0 ∧ (∀ h0 : 0 < t, (rdN N ea t).nx = nxtR (bhR (N.rs[t - 1]'(by omega)))) ∧ (t = 0 → (rdN N ea t).nx = r.r.o - 1) := by
  refine ⟨?_, fun h0 => rdN_nx ea h0 h2, fun h0 => ?_⟩
  · rcases Nat.eq_zero_or_pos t with h3 | h3
    · have h4 := (hok.next).2 (by show N.rs.take t = []; rw [h3]; rfl)
      exact h4.2
    · rw [rdN_nx ea h3 h2]; exact nxtR_in.2.2
  · have h4 := (hok.next).2 (by show N.rs.take t = []; rw [h0]; rfl)
    rw [h4.1]
    show N.r.o - 1 = _
    rw [a.rr]
 have hnx3 : (rsaV (rdN N ea t) c r.r.o).nx = (rdN N ea t).nx := by
  rw [hnx]
  have := hnx2.1
  unfold nxtR; omega
 have hpg := hd.pgs
 have hblk : ∀ q : Nat, blkL s3 (2 + q % (P - 2)) = blkL s2 (2 + q % (P - 2)) := fun q => hb _ (by omega) (room_lt hpg.1)
 have hpi : ∀ q : Nat, q < 4294967296 → pgIn s3 P (r.r.s + 1) q = pgIn s2 P r.r.s q := fun q hq => by
  rw [pg_blk (hblk q)]
  exact hd.top_ hq (by omega) (by omega)
 have hsmall : ∀ k (hk : k < N.rs.length), 1 ≤ N.rs[k].l ∧ bhR N.rs[k] < 200000000 ∧ 0 ≤ bhR N.rs[k] := fun k hk => by
  have h3 := a.ok.rcd k hk
  have h4 := bhR_in h3.2.2
  have := hN.len
  omega
 have hget : ∀ k (hk : k < t), (N.rs.take t)[k]'(by omega) = N.rs[k]'(by omega) := fun k hk => List.getElem_take
 have htk : N.rs.take t <+: N.rs := List.take_prefix ..
 have hrsk := a.ok.rsk
 have hpx : ∀ k (hk : k < t) (q : Nat), frR q (N.rs[k]'(by omega)) < toR q (N.rs[k]'(by omega)) → PxP s3 P (r.r.s + 1) q (N.rs.take t) := fun k hk q hw => by
  obtain ⟨b, hb1, hb2⟩ := hall k hk (by omega) q hw
  have hq : q < 4294967296 := by
   have := hsmall k (by omega)
   unfold frR toR at hw; omega
  refine ⟨b, ?_, ?_⟩
  · rw [hpi q hq, hb1]
    have e1 := (usd_rec hrsk (by omega) hw).1
    have e2 := (usd_rec (hrsk.take t) (j := k) (by omega) (by rw [hget k hk]; exact hw)).1
    rw [hget k hk] at e2
    rw [e1, e2]
  · have e3 := usd_take hrsk q t (N.rs.length - t) (by omega)
    rw [show t + (N.rs.length - t) = N.rs.length by omega, List.take_length] at e3
    exact e3.trans hb2
 have hend : ∀ k (hk : k < N.rs.length), bhR N.rs[k] % 448 ≠ 0 → frR ((bhR N.rs[k]).toNat / 448 : Nat) N.rs[k] < toR ((bhR N.rs[k]).toNat / 448 : Nat) N.rs[k] := fun k hk h0 => by
  have h3 := a.ok.rcd k hk
  have h4 := bhR_in h3.2.2
  unfold frR toR; omega
 have hstop : ∀ h0 : 0 < t, (bhR (N.rs[t - 1]'(by omega)) % 448 ≠ 0 → rcIn s2 P r.r.s (bhR (N.rs[t - 1]'(by omega))) (N.rs[t - 1]'(by omega)).s = none) ∧
  ∀ y, rcIn s2 P r.r.s (nxtR (bhR (N.rs[t - 1]'(by omega)))) (N.rs[t - 1]'(by omega)).s = some y → bhR (N.rs[t - 1]'(by omega)) % 448 ≠ 0 ∧ y.s ≤ (N.rs[t - 1]'(by omega)).s ∧ ∀ sq b, pgIn s2 P r.r.s ((bhR (N.rs[t - 1]'(by omega))).toNat / 448) = some (sq, b) → (b.length : Int) ≠ bhR (N.rs[t - 1]'(by omega)) % 448 := fun h0 => by
  refine af_stop (hst h0 (by omega)) (fun h3 => ?_) ?_
  · have hw := hend (t - 1) (by omega) h3
    obtain ⟨b, hb1, _⟩ := hall (t - 1) (by omega) (by omega) _ hw
    have e1 := (usd_rec hrsk (by omega) hw).1
    exact ⟨b, by rw [hb1, e1]⟩
  · have h3 := a.ok.rcd (t - 1) (by omega)
    have h4 := bhR_in h3.2.2
    omega
 refine ⟨ok_iff.1 (rsa_ok hok hz).2, by rw [hnx3]; exact hnx2.1, by show N.pg = _; rw [a.pg, h.hP], ?_, hr3, ?_, ?_, ?_, ?_, ?_⟩
 · rw [hps, hpo]
   refine ⟨by rw [hl]; exact hd.len, hpg, hd.lob, by have := hd.tob; omega, fun q x hx => ?_, hd.u, fun q q1 q2 k hk => ?_⟩
   · have := hd.f q x hx; exact ⟨this.1, this.2.1, by omega⟩
   · rw [hblk q]; exact hd.sec q q1 q2 k hk
 · intro k hk q hw
   rw [hps]
   simp only [hrs] at hk hw ⊢
   rw [hget k (by omega)] at hw
   exact hpx k (by omega) q hw
 · intro k hk hx
   rw [hps]
   simp only [hrs] at hk hx ⊢
   rw [hget k (by omega), hget (k + 1) (by omega)] at *
   have hb1 := hsmall k (by omega)
   refine Gap.congr ?_ (by omega) hpi
   rcases Nat.lt_or_ge (k + 1) r.rs.length with h3 | h3
   · exact hR.gp k h3 hx
   · rcases Nat.lt_or_ge k r.rs.length with h4 | h4
     · have h5 := hR.ge (by omega)
       have h6 : r.rs.length = k + 1 := by omega
       have h7 := a.new (k + 1) (by omega) h3
       simp only [h6, Nat.add_sub_cancel] at h5
       rw [h7]; exact h5
     · intro h0
       have hw := hend k (by omega) h0
       have hbs := hsmall k (by omega)
       have hbi := bhR_in (hrsk.ok.sz k (by omega)).2
       obtain ⟨b, hb1, _⟩ := hall k (by omega) (by omega) _ hw
       obtain ⟨n1, n2⟩ := hR.new k (by omega) h4
       have u1 := (usd_rec hrsk (by omega) hw).1
       have hex := ((hR.newEx (by have := hsmall k (by omega); omega) (by omega) hb1).2 (by omega)).1
       have hu := (usd_rec hrsk (by omega) hw).2.2.2 fun h8 => by
        rw [hx]; unfold nxtR; omega
       have hut : toR ((bhR N.rs[k]).toNat / 448 : Nat) N.rs[k] = bhR N.rs[k] := by unfold toR; omega
       have hu2 : ((usdL ((bhR N.rs[k]).toNat / 448 : Nat) N.rs).length : Int) = bhR N.rs[k] % 448 := by omega
       exact ⟨rc_short hex (by omega), .inr ⟨_, _, hex, hu2⟩⟩
 · intro h0
   rw [hps]
   simp only [hrs, hlen] at h0 ⊢
   rw [hget (t - 1) (by omega)]
   have hb1 := hsmall (t - 1) (by omega)
   intro h3
   refine ⟨rc_none_congr ((hstop h0).1 h3) (by omega) hpi, .inl ?_⟩
   have h4 := (hrsk.ok.sq (t - 1) (by omega)).2
   rw [a.rr] at h4
   omega
 · intro y hy
   rw [hps, hnx3] at *
   simp only [hrs, hlen] at hy ⊢
   have hb9 := hok.h.nx
   rw [rc_same (by omega) hpi] at hy
   by_cases h0 : 0 < t
   · rw [dif_pos h0, hget (t - 1) (by omega), hnx2.2.1 h0] at hy
     obtain ⟨k1, k2, k3⟩ := (hstop h0).2 y hy
     refine ⟨h0, ?_⟩
     rw [hget (t - 1) (by omega)]
     refine ⟨k1, k2, fun sq b hb2 => k3 sq b ?_⟩
     rw [← hpi _ (by have := hsmall (t - 1) (by omega); omega)]; exact hb2
   · rw [dif_neg h0, hnx2.2.2 (by omega), h0t (by omega)] at hy
     cases hy
 · intro q hq x hx
   rw [hps]
   have := (hd.f q x hx).2.2
   omega
end
end Go.Proofs.YtmlilplbdpjfcaaGreatDoor
namespace Go.Proofs.YtmlilplbdpjfcaaGreatDoor
set_option linter.unusedVariables false
set_option linter.unusedSimpArgs false
set_option maxRecDepth 4000
open Go.RowKit Go.Sort
theorem blk_flat : ∀ (ls : List (List UInt8)) (k : Nat) (hk : k < ls.length), (∀ l ∈ ls, l.length = 512) → blkL ls.flatten k = ls[k]
 | l :: ls, 0, _, h => by
  unfold blkL
  rw [Nat.mul_zero, List.drop_zero, List.flatten_cons, List.take_left' (h l (List.mem_cons_self ..))]; rfl
 | l :: ls, k + 1, hk, h => by
  have h0 := h l (List.mem_cons_self ..)
  have ih := blk_flat ls k (by simpa using hk) fun x hx => h x (List.mem_cons_of_mem _ hx)
  unfold blkL at ih ⊢
  rw [List.flatten_cons, show 512 * (k + 1) = l.length + 512 * k by omega, ← List.drop_drop, List.drop_left, ih]; rfl
section
variable {r : RngP} {P : Nat}
theorem rb_idx (hP : r.pg = P) (h4 : 4 ≤ P) {lo : Nat} (hlo : (roomsP r).1 = lo) (k : Nat) : (2 + ((roomsP r).1 + k) % (r.pg - 2)).toNat = 2 + (lo + k) % (P - 2) := by
 rw [hP, hlo, show ((P : Int) - 2) = ((P - 2 : Nat) : Int) by omega, show ((lo : Int) + k) = ((lo + k : Nat) : Int) by omega, ← Int.natCast_emod]; omega
theorem rbK_get (hP : r.pg = P) (h4 : 4 ≤ P) {lo : Nat} (hlo : (roomsP r).1 = lo) : ∀ (k : Nat), k ≤ P - 2 →
 (∀ t, t < k → (rbK r k)[2 + (lo + t) % (P - 2)]? = some (pgR r ((lo + t : Nat) : Int))) ∧ (∀ i, i < P → (∀ t, t < k → i ≠ 2 + (lo + t) % (P - 2)) → (rbK r k)[i]? = (rb1 r)[i]?)
 | 0, _ => ⟨fun t h => by omega, fun i _ _ => rfl⟩
 | k + 1, hk => by
  obtain ⟨h1, h2⟩ := rbK_get hP h4 hlo k (by omega)
  have hidx := rb_idx hP h4 hlo k
  have hlt : 2 + (lo + k) % (P - 2) < P := room_lt h4
  have hl : (rbK r k).length = P := by rw [rbK_length, hP]; rfl
  constructor
  · intro t ht
    unfold rbK
    rw [hidx]
    by_cases h3 : t = k
    · rw [h3, List.getElem?_set_self (by omega), hlo]; congr 1
    · rw [List.getElem?_set_ne, h1 t (by omega)]
      intro h5
      have := room_one (n := P - 2) (lo := lo) (a := lo + k) (b := lo + t) (by omega) (by omega) (by omega) (by omega) (by omega)
      omega
  · intro i hi hn
    unfold rbK
    rw [hidx, List.getElem?_set_ne (by have := hn k (by omega); omega), h2 i hi fun t ht => hn t (by omega)]
theorem zeros_op : opB (zerosL 512) = false := by kernel_rfl
theorem rso_zero (pg : Int) : rsoE (zerosL 512) pg ≠ 0 := by
 unfold rsoE
 rw [zeros_op]
 split
 · decide
 · rename_i h1
   split
   · exact fun h => absurd h (by assumption)
   · simp
theorem sec_zero {k : Nat} (hk : k < 8) : secL (zerosL 512) k = zerosL 64 := by
 unfold secL zerosL
 rw [List.drop_replicate, List.take_replicate]
 congr 1
 omega
theorem rb1_get (h : OkP r) (hP : r.pg = P) : (∀ i, 2 ≤ i → i < P → (rb1 r)[i]? = some (zerosL 512)) ∧ (rb1 r)[(r.r.s % 2).toNat]? = some (rsL r.r r.pg) ∧ (rb1 r)[1 - (r.r.s % 2).toNat]? = some (if r.e = rst0 then zerosL 512 else rsL r.e r.pg) := by
 have hpg := h.h.pg
 have hs : 0 ≤ r.r.s % 2 ∧ r.r.s % 2 < 2 := by omega
 have h0l : (rb0 r).length = P := by rw [rb0_length, hP]; rfl
 have hrep : ∀ i, i < P → (List.replicate r.pg.toNat (zerosL 512))[i]? = some (zerosL 512) := fun i hi => by
  rw [List.getElem?_replicate, if_pos (by omega)]
 have hb0 : ∀ i, i < P → i ≠ (r.r.s % 2).toNat → (rb0 r)[i]? = some (zerosL 512) := fun i hi hn => by
  unfold rb0; rw [List.getElem?_set_ne (by omega), hrep i hi]
 have hb0s : (rb0 r)[(r.r.s % 2).toNat]? = some (rsL r.r r.pg) := by
  unfold rb0; rw [List.getElem?_set_self (by rw [List.length_replicate]; omega)]
 unfold rb1
 split
 · exact ⟨fun i h1 h2 => hb0 i h2 (by omega), hb0s, hb0 _ (by omega) (by omega)⟩
 · rename_i hne
   have he : r.e.s = r.r.s - 1 := by
    rcases h.h.e with h1 | h1
    · exact absurd h1 hne
    · exact h1.2
   have hidx : (r.e.s % 2).toNat = 1 - (r.r.s % 2).toNat := by rw [he]; omega
   rw [hidx]
   refine ⟨fun i h1 h2 => ?_, ?_, ?_⟩
   · rw [List.getElem?_set_ne (by omega)]; exact hb0 i h2 (by omega)
   · rw [List.getElem?_set_ne (by omega)]; exact hb0s
   · rw [List.getElem?_set_self (by omega)]
theorem ar_rs {s : List UInt8} {x : RstP} {pg : Int} {i : Nat} (h1 : rstB x = true) (h2 : pgsE pg = 0) (hb : blkL s i = rsL x pg) (hi : x.s % 2 = i) : arIn s pg i = some x := by
 obtain ⟨e1, e2⟩ := rsp_ok (x := x) (pg := pg) (by unfold rstE; rw [unl_zero (by decide)]; exact h1) h2
 unfold arIn
 rw [hb, e2, if_pos ⟨e1, hi⟩]
theorem ar_zero {s : List UInt8} {pg : Int} {i : Nat} (hb : blkL s i = zerosL 512) : arIn s pg i = none := by
 unfold arIn
 rw [hb, if_neg fun h => rso_zero pg h.1]
theorem rs_two {s : List UInt8} {pg : Int} {x y : RstP} {i : Nat} (hi : i < 2) (h1 : arIn s pg i = some x) (h2 : arIn s pg (1 - i) = none ∧ y = rst0 ∨ arIn s pg (1 - i) = some y ∧ y.s = x.s - 1) : rsIn s pg = some (x, y) := by
 unfold rsIn
 obtain rfl | rfl : i = 0 ∨ i = 1 := by omega
 · rcases h2 with ⟨h2, h3⟩ | ⟨h2, h3⟩
   · rw [h1, h2, h3]
   · rw [h1, h2]
     simp only
     rw [if_neg (by omega), if_pos h3]
 · rcases h2 with ⟨h2, h3⟩ | ⟨h2, h3⟩
   · rw [h1, h2, h3]
   · rw [h1, h2]
     simp only
     rw [if_pos (by omega), if_pos h3]
def iniF (r : RngP) : Nat → List (Int × List UInt8) := fun q => if ((r.r.o - 1) / 448).toNat ≤ q ∧ q < endQ r then [pgG r q] else []
theorem ini_room (h : OkP r) {q : Nat} (h1 : (r.r.o - 1) / 448 ≤ q) (h2 : q < endQ r) : ∃ k, ∃ hk : k < r.rs.length, frR q r.rs[k] < toR q r.rs[k] := by
 rcases Nat.eq_zero_or_pos r.rs.length with h0 | h0
 · rw [endQ_nil h0] at h2; omega
 rw [endQ_last h h0] at h2
 have hf := h.head h0
 have ho := h.o1
 by_cases h3 : r.rs[0].l - 1 ≤ q * 448
 · obtain ⟨j, hj, _, h4⟩ := room_rec h.rsk (q := q) (r.rs.length - 1) (by omega) h2 h3
   exact ⟨j, hj, h4⟩
 · refine ⟨0, h0, ?_⟩
   have := bhR_in (h.rcd 0 h0).2.2
   unfold frR toR; omega
theorem LD.ini_rs (h : OkP r) (hP : r.pg = P) : rsIn (rbL r).flatten P = some (r.r, r.e) := by
 have hpg := h.h.pg
 have hs := h.h.rr.1
 have ho := h.o1
 have hrsk := h.rsk
 have hrp := h.rooms_pos
 have hrb := rooms_bd h
 have hall : ∀ l ∈ rbL r, l.length = 512 := rbK_all r h (roomsP r).2.toNat
 have hlen : (rbL r).length = P := by unfold rbL; rw [rbK_length, hP]; rfl
 have hflat : (rbL r).flatten.length = 512 * P := by rw [flat512 _ hall, hlen]
 have hpge : pgsE r.pg = 0 := by unfold pgsE; rw [unl_zero (by decide), inB_true]; exact hpg
 have hcnt : (roomsP r).2 ≤ r.pg - 2 := h.tl.2.2
 obtain ⟨lo, hlo⟩ := Int.eq_ofNat_of_zero_le hrb.1
 obtain ⟨hg1, hg2⟩ := rbK_get hP (by omega) hlo (roomsP r).2.toNat (by omega)
 obtain ⟨z1, z2, z3⟩ := rb1_get h hP
 have hblk : ∀ i (hi : i < P) l, (rbL r)[i]? = some l → blkL (rbL r).flatten i = l := fun i hi l hl => by
  rw [blk_flat _ i (by omega) hall]
  rw [List.getElem?_eq_getElem (by omega)] at hl
  injection hl
 have hb01 : ∀ i, i < 2 → (rbL r)[i]? = (rb1 r)[i]? := fun i hi => hg2 i (by omega) fun t ht => by omega
 have hs2 : 0 ≤ r.r.s % 2 ∧ r.r.s % 2 < 2 := by omega
 refine rs_two (i := (r.r.s % 2).toNat) (by omega) ?_ ?_
 · refine ar_rs h.h.rb (by rw [← hP]; exact hpge) (hblk _ (by omega) _ ?_) (by omega)
   rw [hb01 _ (by omega), z2, hP]
 · by_cases he : r.e = rst0
   · left
     refine ⟨ar_zero (hblk _ (by omega) _ ?_), he⟩
     rw [hb01 _ (by omega), z3, if_pos he]
   · right
     rcases h.h.e with h1 | h1
     · exact absurd h1 he
     · refine ⟨ar_rs h1.1 (by rw [← hP]; exact hpge) (hblk _ (by omega) _ ?_) (by omega), h1.2⟩
       rw [hb01 _ (by omega), z3, if_neg he, hP]
theorem LD.ini (h : OkP r) (hP : r.pg = P) (hcl : r.nx % 448 = 0) : LD (rbL r).flatten r P (iniF r) := by
 have hpg := h.h.pg
 have hs := h.h.rr.1
 have ho := h.o1
 have hrsk := h.rsk
 have hrp := h.rooms_pos
 have hrb := rooms_bd h
 have hall : ∀ l ∈ rbL r, l.length = 512 := rbK_all r h (roomsP r).2.toNat
 have hlen : (rbL r).length = P := by unfold rbL; rw [rbK_length, hP]; rfl
 have hflat : (rbL r).flatten.length = 512 * P := by rw [flat512 _ hall, hlen]
 have hpge : pgsE r.pg = 0 := by unfold pgsE; rw [unl_zero (by decide), inB_true]; exact hpg
 have hcnt : (roomsP r).2 ≤ r.pg - 2 := h.tl.2.2
 obtain ⟨lo, hlo⟩ := Int.eq_ofNat_of_zero_le hrb.1
 obtain ⟨hg1, hg2⟩ := rbK_get hP (by omega) hlo (roomsP r).2.toNat (by omega)
 obtain ⟨z1, z2, z3⟩ := rb1_get h hP
 have hblk : ∀ i (hi : i < P) l, (rbL r)[i]? = some l → blkL (rbL r).flatten i = l := fun i hi l hl => by
  rw [blk_flat _ i (by omega) hall]
  rw [List.getElem?_eq_getElem (by omega)] at hl
  injection hl
 have hend : endQ r = lo + (roomsP r).2.toNat := by unfold endQ; rw [hlo]; omega
 have hlo2 : 0 < r.rs.length → lo = ((r.r.o - 1) / 448).toNat := fun h0 => by
  have := hlo
  unfold roomsP at this
  rw [lastG h0] at this
  simp only at this
  omega
 have hin : ∀ q, ((r.r.o - 1) / 448).toNat ≤ q → q < endQ r → blkL (rbL r).flatten (2 + q % (P - 2)) = pageL q (pgG r q).1 P (pgG r q).2 := fun q h1 h2 => by
  have h0 : 0 < r.rs.length := by
   rcases Nat.eq_zero_or_pos r.rs.length with h0 | h0
   · rw [endQ_nil h0] at h2; omega
   · exact h0
  have h3 := hg1 (q - lo) (by have := hlo2 h0; omega)
  rw [show lo + (q - lo) = q by have := hlo2 h0; omega] at h3
  rw [hblk _ (room_lt (by omega)) _ h3, pgR_page r hrsk, hP]; rfl
 have hout : ∀ q, ((r.r.o - 1) / 448).toNat ≤ q → q < ((r.r.o - 1) / 448).toNat + (P - 2) → ¬ q < endQ r → blkL (rbL r).flatten (2 + q % (P - 2)) = zerosL 512 := fun q h1 h2 h3 => by
  have hlt : 2 + q % (P - 2) < P := room_lt (by omega)
  refine hblk _ hlt _ ?_
  show (rbK r (roomsP r).2.toNat)[_]? = _
  rw [hg2 _ hlt fun t ht he => ?_]
  · exact z1 _ (by omega) hlt
  · rcases Nat.eq_zero_or_pos r.rs.length with h0 | h0
    · have : (roomsP r).2 = 0 := by unfold roomsP; rw [List.eq_nil_of_length_eq_zero h0]; rfl
      omega
    · have h5 := hlo2 h0
      have := room_one (n := P - 2) (lo := lo) (a := q) (b := lo + t) (by omega) (by omega) (by omega) (by omega) (by omega)
      omega
 have hb01 : ∀ i, i < 2 → (rbL r)[i]? = (rb1 r)[i]? := fun i hi => hg2 i (by omega) fun t ht => by omega
 have hs2 : 0 ≤ r.r.s % 2 ∧ r.r.s % 2 < 2 := by omega
 have hrst := LD.ini_rs h hP
 have hdk : Dsk (rbL r).flatten P ((r.r.o - 1) / 448).toNat r.r.s (iniF r) := by
  refine ⟨hflat, by omega, by omega, by omega, fun q x hx => ?_, fun q x hx y hy _ => ?_, fun q h1 h2 k hk => ?_⟩
  · unfold iniF at hx
    split at hx
    · rename_i hc
      rw [List.mem_singleton.1 hx]
      obtain ⟨k, hk, hw⟩ := ini_room h (by omega) hc.2
      have h3 := (usd_rec hrsk hk hw).1
      have h4 := hrsk.ok.sq k hk
      refine ⟨(usdL_length hrsk q).2, ?_, ?_⟩
      · show 0 ≤ (pgFld q r.rs).2.2; omega
      · show (pgFld q r.rs).2.2 ≤ _; omega
    · cases hx
  · unfold iniF at hx hy
    split at hx
    · rename_i hc
      rw [if_pos hc] at hy
      rw [List.mem_singleton.1 hx, List.mem_singleton.1 hy]
    · cases hx
  · by_cases hc : q < endQ r
    · right
      refine ⟨pgG r q, by unfold iniF; rw [if_pos ⟨h1, hc⟩]; exact List.mem_singleton.2 rfl, ?_⟩
      rw [hin q h1 hc]
    · left
      rw [hout q h1 h2 hc, sec_zero hk]
 have hex : ∀ k (hk : k < r.rs.length) (q : Nat), frR q r.rs[k] < toR q r.rs[k] → ExP (rbL r).flatten P r.r.s q r.rs := fun k hk q hw => by
  have h1 := h.rcd k hk
  have h2 := bhR_in h1.2.2
  have h3 := h.head (by omega)
  have h4 := h.le (i := 0) (j := k) (by omega) hk
  have h5 : bhR r.rs[k] ≤ bhR (r.rs[r.rs.length - 1]'(by omega)) := by
   rcases Nat.lt_or_ge k (r.rs.length - 1) with h6 | h6
   · have h7 := hrsk.ok.mono k (r.rs.length - 1) (by omega) h6
     have h8 := bhR_in (h.rcd (r.rs.length - 1) (by omega)).2.2
     omega
   · have : r.rs.length - 1 = k := by omega
     simp only [this]; exact Int.le_refl _
  have hlen100 := h.h.len
  have hlo3 : ((r.r.o - 1) / 448).toNat ≤ q := by unfold frR toR at hw; omega
  have hq : q < endQ r := by rw [endQ_last h (by omega)]; unfold frR toR at hw; omega
  have hqs : q < 4294967296 := by unfold frR toR at hw; omega
  have h6 := (usd_rec hrsk hk hw).1
  have h7 := hrsk.ok.sq k hk
  have hb := hin q hlo3 hq
  unfold ExP
  rw [pg_in_page hb (usdL_length hrsk q).2 hqs hqs ⟨by show 1 ≤ (pgFld q r.rs).2.2; omega, by show (pgFld q r.rs).2.2 < _; omega⟩, if_pos ⟨rfl, by show (pgFld q r.rs).2.2 ≤ _; omega⟩]
  rfl
 have hgap : ∀ k (hk : k < r.rs.length) T, (∀ h2 : k + 1 < r.rs.length, r.rs[k + 1].l - 1 = nxtR (bhR r.rs[k])) → Gap (rbL r).flatten P r.r.s r.rs[k] T := fun k hk T hnx h0 => by
  have h1 := h.rcd k hk
  have h2 := bhR_in h1.2.2
  have hw : frR ((bhR r.rs[k]).toNat / 448 : Nat) r.rs[k] < toR ((bhR r.rs[k]).toNat / 448 : Nat) r.rs[k] := by unfold frR toR; omega
  have hx := hex k hk _ hw
  have hu := (usd_rec hrsk hk hw).2.2.2 fun h8 => by
   rw [hnx h8]; unfold nxtR; omega
  have hut : toR ((bhR r.rs[k]).toNat / 448 : Nat) r.rs[k] = bhR r.rs[k] := by unfold toR; omega
  have hu2 : ((usdL ((bhR r.rs[k]).toNat / 448 : Nat) r.rs).length : Int) = bhR r.rs[k] % 448 := by omega
  exact ⟨rc_short hx (by omega), .inr ⟨_, _, hx, hu2⟩⟩
 have hnq : ∀ q : Nat, r.nx ≤ q * 448 → ¬ q < endQ r := fun q hq h1 => by
  rcases Nat.eq_zero_or_pos r.rs.length with h0 | h0
  · rw [endQ_nil h0] at h1; omega
  · rw [endQ_last h h0] at h1
    have := h.bh_nx (k := r.rs.length - 1) (by omega)
    omega
 refine ⟨h, hcl, hP, hdk, ⟨r.e, hrst⟩, fun k hk q hw => (hex k hk q hw).px, fun k hk hx => hgap k (by omega) _ fun _ => hx, fun h0 => hgap _ (by omega) _ fun h1 => by omega, fun y hy => ?_, fun q hq x hx => ?_⟩
 · exfalso
   obtain ⟨r1, r2, r3, r4, r5, r6, r7, r8⟩ := rc_seq hy
   have hyb := bhR_in r5
   have hnx := h.h.nx
   obtain ⟨b, hb⟩ := r6 _ (Nat.le_refl _) (by omega)
   obtain ⟨d1, d2, d3, d4⟩ := hdk.in_ (by omega) (by omega) hb
   unfold iniF at d3
   rw [if_neg fun hc => hnq _ (by omega) hc.2] at d3
   cases d3
 · unfold iniF at hx
   rw [if_neg fun hc => hnq _ hq hc.2] at hx
   cases hx
end
end Go.Proofs.YtmlilplbdpjfcaaGreatDoor
namespace Go.Proofs.YtmlilplbdpjfcaaGreatDoor
set_option linter.unusedVariables false
set_option linter.unusedSimpArgs false
set_option maxRecDepth 4000
open Go.RowKit Go.Sort
theorem App.self {r : RngP} (h : OkP r) : App r r := ⟨h, rfl, rfl, List.prefix_refl _, fun k hk h1 => by omega, fun h => by omega⟩
theorem clo_ok {r : RngP} (h : OkP r) (hz : cloE r = 0) : OkP (cloV r) := by
 have h1 : nxtR r.nx ≤ 100000000 := by
  unfold cloE at hz
  rw [unl_zero (by decide), decide_eq_true_eq] at hz
  exact hz
 have h2 := nxtR_in (p := r.nx)
 have hnx := h.h.nx
 refine ⟨⟨h.h.pg, h.h.rb, h.h.rr, h.h.e, ⟨by show 0 ≤ nxtR r.nx; omega, h1, by show nxtR r.nx % 8 = 0; omega⟩, h.h.len⟩, h.all, ?_⟩
 have ht := h.t
 unfold tailE at ht ⊢
 rw [firstE_zero] at ht ⊢
 intro e he
 simp only [List.mem_cons, List.not_mem_nil, or_false] at he
 rcases he with rfl | rfl | rfl
 · obtain ⟨h3, h4⟩ := h.next
   unfold nextE
   show (match r.rs.getLast? with | none => _ | some y => _) = (0 : Int)
   cases hg : r.rs.getLast? with
   | none =>
    simp only
    rw [unl_zero (by decide), Bool.and_eq_true, beq_iff_eq, beq_iff_eq]
    have h5 := h4 (List.getLast?_eq_none_iff.1 hg)
    show nxtR r.nx = r.r.o - 1 ∧ nxtR r.nx % 448 = 0
    unfold nxtR; omega
   | some y =>
    simp only
    rw [unl_zero (by decide)]
    have h5 := (h3 y hg).1
    have h6 : nxtR r.nx = nxtR (bhR y) := by
     rcases h5 with h5 | h5
     · rw [h5]
     · rw [h5]; unfold nxtR; omega
    show ((nxtR r.nx == bhR y || nxtR r.nx == nxtR (bhR y)) && (y.s == r.r.s || nxtR r.nx % 448 == 0)) = true
    rw [h6]
    simp [nxtR_in.2.2]
 · exact ht (unl (r.r.c == 0 || hasR r.rs r.r.c) 6) (by simp)
 · exact ht (unl (decide ((roomsP r).2 ≤ r.pg - 2)) 16) (by simp)
end Go.Proofs.YtmlilplbdpjfcaaGreatDoor
namespace Go.Proofs.YtmlilplbdpjfcaaGreatDoor
set_option linter.unusedVariables false
set_option linter.unusedSimpArgs false
set_option maxRecDepth 4000
open Go.RowKit Go.Sort
theorem blk_getD (s : List UInt8) (i j : Nat) (hj : j < 512) : (blkL s i).getD j 0 = s.getD (512 * i + j) 0 := by
 unfold blkL
 rw [List.getD_eq_getElem?_getD, List.getElem?_take, if_pos hj, List.getElem?_drop, ← List.getD_eq_getElem?_getD]
theorem secL_length {b : List UInt8} (hb : b.length = 512) {k : Nat} (hk : k < 8) : (secL b k).length = 64 := by
 unfold secL; rw [List.length_take, List.length_drop]; omega
theorem sec_patch {D b : List UInt8} {P i0 k0 : Nat} (hD : D.length = 512 * P) (hi0 : i0 < P) (hk0 : k0 < 8) (hb : b.length = 64) {i k : Nat} (hi : i < P) (hk : k < 8) :
 secL (blkL (patL D (512 * i0 + 64 * k0) b) i) k = if i = i0 ∧ k = k0 then b else secL (blkL D i) k := by
 have hpl : (patL D (512 * i0 + 64 * k0) b).length = 512 * P := by rw [patL_length (by omega), hD]
 have h1 := secL_length (blkL_length hpl hi) hk
 have h2 := secL_length (blkL_length hD hi) hk
 apply list_ext_getD
 · rw [h1]; split
   · exact hb.symm
   · exact h2.symm
 · intro j hj
   rw [h1] at hj
   rw [sec_getD _ _ hj, blk_getD _ _ _ (by omega), patL_getD (by omega)]
   split
   · rename_i hc
     rw [if_pos (by omega)]
     exact gD (by omega)
   · rename_i hc
     rw [if_neg (by omega), sec_getD _ _ hj, blk_getD _ _ _ (by omega)]
theorem Ovr.patch {s D : List UInt8} {P : Nat} {pgs : Nat → List UInt8} {qa qb : Nat} (h : Ovr s D P pgs qa qb) (hs : s.length = 512 * P) (h4 : 4 ≤ P) {q k : Nat} (h1 : qa ≤ q) (h2 : q < qb) (hk : k < 8) (hp : (pgs q).length = 512) :
 Ovr s (patL D (512 * (2 + q % (P - 2)) + 64 * k) (secL (pgs q) k)) P pgs qa qb := by
 have hi0 : 2 + q % (P - 2) < P := room_lt h4
 have hl := secL_length hp hk
 have hD : D.length = 512 * P := by rw [h.len, hs]
 refine ⟨by rw [patL_length (by omega), h.len], fun i hi k' hk' => ?_⟩
 rw [sec_patch hD hi0 hk hl hi hk']
 split
 · rename_i hc
   exact .inr ⟨q, h1, h2, hc.1, by rw [hc.2]⟩
 · exact h.sec i hi k' hk'
theorem blk_patch {D b : List UInt8} {P i0 : Nat} (hD : D.length = 512 * P) (hi0 : i0 < P) (hb : b.length = 512) {i : Nat} (hi : i < P) : blkL (patL D (512 * i0) b) i = if i = i0 then b else blkL D i := by
 have hpl : (patL D (512 * i0) b).length = 512 * P := by rw [patL_length (by omega), hD]
 have h1 := blkL_length hpl hi
 have h2 := blkL_length hD hi
 apply list_ext_getD
 · rw [h1]; split
   · exact hb.symm
   · exact h2.symm
 · intro j hj
   rw [h1] at hj
   rw [blk_getD _ _ _ hj, patL_getD (by omega)]
   split
   · rename_i hc
     rw [if_pos (by omega)]
     exact gD (by omega)
   · rename_i hc
     rw [if_neg (by omega), blk_getD _ _ _ hj]
theorem app_ok {N : RngP} (h : OkP N) {x : ByteArray} (hz : appE N x = 0) : OkP (appV N x) := by
 unfold appE at hz
 split at hz
 · cases hz
 rename_i h1
 split at hz
 · cases hz
 rename_i h2
 split at hz
 · cases hz
 rename_i h3
 split at hz
 · cases hz
 rename_i h4
 have hsz := szR_in (n := x.size) (by omega)
 have hnx := h.h.nx
 have hrr := h.h.rr
 obtain ⟨n1, n2⟩ := h.next
 have hlast : (appV N x).rs.getLast? = some ⟨N.nx + 1, N.r.s, x⟩ := by
  show (N.rs ++ [_]).getLast? = _
  rw [List.getLast?_append]; rfl
 have hbh : bhR ⟨N.nx + 1, N.r.s, x⟩ = N.nx + szR x.size := by unfold bhR; simp only; omega
 have hanx : (appV N x).nx = N.nx + szR x.size := rfl
 refine ⟨⟨h.h.pg, h.h.rb, hrr, h.h.e, ⟨by rw [hanx]; omega, by rw [hanx]; rw [hanx] at h4; omega, by rw [hanx]; omega⟩, ?_⟩, fun m hm => ?_, ?_⟩
 · show (N.rs ++ [_]).length ≤ 100
   rw [List.length_append]; show N.rs.length + 1 ≤ 100; omega
 · have hm2 : m < (N.rs ++ [(⟨N.nx + 1, N.r.s, x⟩ : RecP)]).length := hm
   show recE N.r.o N.r.s (bfrR (N.rs ++ [⟨N.nx + 1, N.r.s, x⟩]) m) ((N.rs ++ [⟨N.nx + 1, N.r.s, x⟩])[m]) = 0
   rw [List.length_append] at hm2
   have hm3 : m < N.rs.length + 1 := hm2
   rcases Nat.lt_or_ge m N.rs.length with h5 | h5
   · have h6 := h.all m h5
     have e1 : (N.rs ++ [(⟨N.nx + 1, N.r.s, x⟩ : RecP)])[m]'(by rw [List.length_append]; exact hm2) = N.rs[m] := List.getElem_append_left h5
     have e2 : bfrR (N.rs ++ [(⟨N.nx + 1, N.r.s, x⟩ : RecP)]) m = bfrR N.rs m := by
      unfold bfrR
      split
      · rfl
      · rw [List.getElem?_append_left (by omega)]
     rw [e1, e2]; exact h6
   · obtain rfl : m = N.rs.length := by omega
     have e1 : (N.rs ++ [(⟨N.nx + 1, N.r.s, x⟩ : RecP)])[N.rs.length]'(by rw [List.length_append]; exact hm2) = ⟨N.nx + 1, N.r.s, x⟩ := by
      rw [List.getElem_append_right (by omega)]; simp
     rw [e1, recE_zero]
     refine ⟨h1, by show x.size ≤ 3000; omega, ?_, ?_, ?_⟩
     · rcases Nat.eq_zero_or_pos N.rs.length with h5 | h5
       · have e2 : bfrR (N.rs ++ [(⟨N.nx + 1, N.r.s, x⟩ : RecP)]) N.rs.length = none := by unfold bfrR; rw [if_pos h5]
         rw [e2]
         obtain ⟨m1, m2⟩ := n2 (List.eq_nil_of_length_eq_zero h5)
         have ho := h.o1
         unfold ordB
         simp only [Bool.and_eq_true, beq_iff_eq, decide_eq_true_eq]
         omega
       · have e2 : bfrR (N.rs ++ [(⟨N.nx + 1, N.r.s, x⟩ : RecP)]) N.rs.length = some (N.rs[N.rs.length - 1]'(by omega)) := by
          unfold bfrR; rw [if_neg (by omega), List.getElem?_append_left (by omega), List.getElem?_eq_getElem (by omega)]
         rw [e2]
         have h6 := (n1 _ (lastG h5)).1
         unfold ordB
         simp only [Bool.or_eq_true, beq_iff_eq]
         omega
     · rw [inB_true]; exact ⟨hrr.1.1, Int.le_refl _⟩
     · rcases Nat.eq_zero_or_pos N.rs.length with h5 | h5
       · have e2 : bfrR (N.rs ++ [(⟨N.nx + 1, N.r.s, x⟩ : RecP)]) N.rs.length = none := by unfold bfrR; rw [if_pos h5]
         rw [e2]; rfl
       · have e2 : bfrR (N.rs ++ [(⟨N.nx + 1, N.r.s, x⟩ : RecP)]) N.rs.length = some (N.rs[N.rs.length - 1]'(by omega)) := by
          unfold bfrR; rw [if_neg (by omega), List.getElem?_append_left (by omega), List.getElem?_eq_getElem (by omega)]
         rw [e2]
         have h6 := (n1 _ (lastG h5)).2
         have h7 := (h.rsk.ok.sq (N.rs.length - 1) (by omega)).2
         unfold seqB
         simp only [Bool.or_eq_true, Bool.and_eq_true, beq_iff_eq, decide_eq_true_eq]
         omega
 · unfold tailE
   rw [firstE_zero]
   intro e he
   simp only [List.mem_cons, List.not_mem_nil, or_false] at he
   rcases he with rfl | rfl | rfl
   · unfold nextE
     rw [hlast]
     simp only
     rw [unl_zero (by decide), hbh, hanx]
     show ((N.nx + szR x.size == N.nx + szR x.size || _) && (N.r.s == N.r.s || _)) = true
     simp
   · rw [unl_zero (by decide), Bool.or_eq_true, beq_iff_eq]
     rcases h.tl.2.1 with h5 | h5
     · exact .inl h5
     · right
       show hasR (N.rs ++ [_]) N.r.c = true
       unfold hasR at h5 ⊢
       rw [List.any_append, h5]; rfl
   · rw [unl_zero (by decide), decide_eq_true_eq]
     show (roomsP (appV N x)).2 ≤ N.pg - 2
     omega
theorem App.snoc {r N : RngP} (a : App r N) (hcl : r.nx % 448 = 0) (hfst : N.rs.length = r.rs.length → N = r) {x : ByteArray} (hz : appE N x = 0) : App r (appV N x) ∧ (appV N x).rs.length = N.rs.length + 1 := by
 have hl : (appV N x).rs.length = N.rs.length + 1 := by show (N.rs ++ [_]).length = _; rw [List.length_append]; rfl
 have hpl := a.pre.length_le
 have hget : ∀ k (hk : k < N.rs.length), (appV N x).rs[k]'(by omega) = N.rs[k] := fun k hk => List.getElem_append_left hk
 have hgl : (appV N x).rs[N.rs.length]'(by omega) = ⟨N.nx + 1, N.r.s, x⟩ := by
  have h9 : (N.rs ++ [(⟨N.nx + 1, N.r.s, x⟩ : RecP)])[N.rs.length]'(by rw [List.length_append]; exact Nat.lt_succ_self _) = ⟨N.nx + 1, N.r.s, x⟩ := by
   rw [List.getElem_append_right (by omega)]; simp
  exact h9
 refine ⟨⟨app_ok a.ok hz, a.pg, a.rr, a.pre.trans (List.prefix_append _ _), fun k hk h1 => ?_, fun h1 => ?_⟩, hl⟩
 · rcases Nat.lt_or_ge k N.rs.length with h2 | h2
   · rw [hget k h2]; exact a.new k h2 h1
   · obtain rfl : k = N.rs.length := by omega
     rw [hgl]
     show N.r.s = _
     rw [a.rr]
 · rcases Nat.lt_or_ge r.rs.length N.rs.length with h2 | h2
   · rw [hget _ h2]; exact a.fst h2
   · have h3 : N.rs.length = r.rs.length := by omega
     have h4 : (appV N x).rs[r.rs.length]'h1 = ⟨N.nx + 1, N.r.s, x⟩ := by simp only [← h3]; exact hgl
     rw [h4, hfst h3]
def FailP (s : List UInt8) (r : RngP) (P : Nat) (s2 : List UInt8) (r2 : RngP) : Prop :=
 ∃ N ea t, App r N ∧ Ovr s s2 P (fun q => pgR N q) (r.nx / 448).toNat (endQ N) ∧ r.rs.length ≤ t ∧ t ≤ N.rs.length ∧ r2 = rdN N ea t ∧ OkP r2 ∧ (t = 0 → rcIn s2 P r.r.s (r.r.o - 1) 0 = none) ∧
  (∀ (h0 : 0 < t) (h1 : t - 1 < N.rs.length), afIn s2 P r.r.s N.rs[t - 1] = none) ∧ (∀ j (hj : j < t) (hj2 : j < N.rs.length), AllP s2 P r.r.s N.rs N.rs[j]) ∧ rsIn s2 P = some (r.r, ea)
theorem FailP.rr {s s2 : List UInt8} {r r2 : RngP} {P : Nat} (h : FailP s r P s2 r2) : r2.r = r.r ∧ r2.pg = r.pg ∧ s2.length = s.length ∧ OkP r2 := by
 obtain ⟨N, ea, t, a, ho, h1, h2, rfl, h4, _⟩ := h
 exact ⟨a.rr, a.pg, ho.len, h4⟩
theorem LD.fails {s s2 : List UInt8} {r N : RngP} {P : Nat} {F : Nat → List (Int × List UInt8)} (h : LD s r P F) (a : App r N) (ho : Ovr s s2 P (fun q => pgR N q) (r.nx / 448).toNat (endQ N)) :
 (inE s2 = 2 ∧ cloE N ≠ 0 ∧ inR s2 = rng0) ∨ (inE s2 = 0 ∧ FailP s r P s2 (inR s2) ∧ r.rs.length ≤ (inR s2).rs.length ∧ (inR s2).rs.length ≤ N.rs.length ∧ (inR s2).rs <+: N.rs) := by
 obtain ⟨ea, t, h1, h2, h3, h4, h5, h6, h7, h8⟩ := h.read a ho
 have h9 := h.readOk a h1 h2 h4
 have hrs : rsIn s2 P = some (r.r, ea) := by
  rw [rs_blk (s := s) fun i hi => ho.blk h.dk.len (by have := h.dk.pgs; omega) fun q _ _ => by omega]
  exact h8
 split at h9
 · right
   have hE : inE s2 = 0 := by
    unfold inE
    rw [h3, if_neg (by simp)]
    exact ok_iff.2 h9
   have hR : inR s2 = rdN N ea t := by unfold inR; rw [if_pos hE, h3]
   have hl : (rdN N ea t).rs.length = t := by show (N.rs.take t).length = t; rw [List.length_take]; omega
   rw [hR]
   refine ⟨hE, ⟨N, ea, t, a, ho, h1, h2, rfl, h9, h5, h6, h7, hrs⟩, by omega, by omega, List.take_prefix ..⟩
 · left
   have hE : inE s2 = 2 := by
    unfold inE
    rw [h3, if_neg (by simp)]
    exact h9.1
   refine ⟨hE, h9.2, ?_⟩
   unfold inR
   rw [hE, if_neg (by decide)]
theorem rs_ar {s : List UInt8} {pg : Int} {x y : RstP} (h : rsIn s pg = some (x, y)) : arIn s pg (x.s % 2).toNat = some x := by
 have key : ∀ i z, arIn s pg i = some z → z.s % 2 = i := fun i z hz => by
  unfold arIn at hz
  split at hz
  · rename_i hc
    injection hz with hz
    rw [← hz]; exact hc.2
  · cases hz
 unfold rsIn at h
 cases h0 : arIn s pg 0 with
 | none =>
  rw [h0] at h
  cases h1 : arIn s pg 1 with
  | none => rw [h1] at h; simp at h
  | some z =>
   rw [h1] at h
   simp only [Option.some.injEq, Prod.mk.injEq] at h
   have := key 1 z h1
   rw [← h.1, this]; exact h1
 | some w =>
  rw [h0] at h
  have k0 := key 0 w h0
  cases h1 : arIn s pg 1 with
  | none =>
   rw [h1] at h
   simp only [Option.some.injEq, Prod.mk.injEq] at h
   rw [← h.1, k0]; exact h0
  | some z =>
   rw [h1] at h
   have k1 := key 1 z h1
   simp only at h
   split at h <;> simp only [Option.some.injEq, Prod.mk.injEq] at h
   · rw [← h.1, k1]; exact h1
   · rw [← h.1, k0]; exact h0
theorem LD.again {s s2 : List UInt8} {r r2 : RngP} {P : Nat} {F : Nat → List (Int × List UInt8)} (h : LD s r P F) (hf : FailP s r P s2 r2) {c : Int} (hz : rsaE r2 c r2.r.o = 0) :
 ∃ F2, LD (patL s2 (512 * ((rsaV r2 c r2.r.o).r.s % 2).toNat) (rsL (rsaV r2 c r2.r.o).r r2.pg)) (rsaV r2 c r2.r.o) P F2 := by
 obtain ⟨N, ea, t, a, ho, h1, h2, rfl, h4, h5, h6, h7, h8⟩ := hf
 have hpg := h.dk.pgs
 have hl2 : s2.length = 512 * P := by rw [ho.len]; exact h.dk.len
 have hro : (rdN N ea t).r.o = r.r.o := by show N.r.o = _; rw [a.rr]
 have hrp : (rdN N ea t).pg = P := by show N.pg = _; rw [a.pg, h.hP]
 have hrs : (rsaV (rdN N ea t) c (rdN N ea t).r.o).r.s = r.r.s + 1 := by show N.r.s + 1 = _; rw [a.rr]
 have hs := h.ok.h.rr.1
 have hok2 := ok_iff.1 (rsa_ok h4 hz).2
 rw [hro] at hz ⊢ hrs hok2
 have hsb : 0 ≤ (rsaV (rdN N ea t) c r.r.o).r.s % 2 ∧ (rsaV (rdN N ea t) c r.r.o).r.s % 2 < 2 := by omega
 have hbl : (rsL (rsaV (rdN N ea t) c r.r.o).r (rdN N ea t).pg).length = 512 := rsL_length _ _
 have hpge : pgsE (P : Int) = 0 := by rw [← h.hP]; unfold pgsE; rw [unl_zero (by decide), inB_true]; exact h.ok.h.pg
 refine ⟨_, h.next a ho h1 h2 h4 h5 h6 h7 hz (by rw [patL_length (by omega)]) (fun i i1 i2 => ?_) ?_⟩
 · rw [blk_patch hl2 (by omega) hbl i2, if_neg (by omega)]
 · refine ⟨r.r, rs_two (i := ((rsaV (rdN N ea t) c r.r.o).r.s % 2).toNat) (by omega) ?_ (.inr ⟨?_, by rw [hrs]; omega⟩)⟩
   · refine ar_rs hok2.h.rb hpge ?_ (by omega)
     rw [blk_patch hl2 (by omega) hbl (by omega), if_pos rfl, hrp]
   · have h9 := rs_ar h8
     rw [hrs] at hsb ⊢
     have e : 1 - ((r.r.s + 1) % 2).toNat = (r.r.s % 2).toNat := by omega
     rw [e]
     have hb : blkL (patL s2 (512 * ((r.r.s + 1) % 2).toNat) (rsL (rsaV (rdN N ea t) c r.r.o).r (rdN N ea t).pg)) (r.r.s % 2).toNat = blkL s2 (r.r.s % 2).toNat := by
      rw [blk_patch hl2 (by omega) hbl (by omega), if_neg (by omega)]
     unfold arIn at h9 ⊢
     rw [hb]; exact h9
end Go.Proofs.YtmlilplbdpjfcaaGreatDoor
