/-
  EncodeFields: the closure that checks a value, the walk over items with it, plain words for the bytes of values.
-/
import Derived.Test.YtiomfkgbaemmkaaVals
import Derived.Test.YtiomfkgbaemmkaaStrs
import Derived.Test.YtiomfkgbaemmkaaBuilder
namespace Go.Proofs.Ytiomfkgbaemmkaa
set_option linter.unusedVariables false
set_option linter.unusedSimpArgs false
open Go.RowKit Go.Sort

/-- a value of a field as it lies in memory -/
structure VC where
  n : Int
  s : ByteArray
  A : Option Addr
  c : Nat
  ns : List Int
def vc0 : VC := ⟨0, ⟨#[]⟩, none, 0, []⟩
def vcV (v : VC) : List Value := [.int .i64 v.n, .string v.s, .slice v.A v.ns.length v.c]
def vcsV (l : List VC) : List Value := l.flatMap vcV
theorem vcsV_length (l : List VC) : (vcsV l).length = 3 * l.length := by
  induction l with
  | nil => rfl
  | cons f l ih => simp [vcsV, vcV] at ih ⊢; omega
theorem vcsV_get (l : List VC) : ∀ (k : Nat) (h : k < l.length), (vcsV l)[k * 3]? = some (.int .i64 l[k].n) ∧ (vcsV l)[k * 3 + 1]? = some (.string l[k].s) ∧ (vcsV l)[k * 3 + 1 + 1]? = some (.slice l[k].A l[k].ns.length l[k].c) := by
  induction l with
  | nil => intro k h; exact absurd h (by simp)
  | cons f l ih =>
    intro k h
    cases k with
    | zero => exact ⟨rfl, rfl, rfl⟩
    | succ k =>
      have := ih k (by simpa using h)
      simp only [vcsV, List.flatMap_cons, vcV, Nat.add_mul, Nat.one_mul, List.cons_append, List.nil_append, List.getElem_cons_succ]
      exact this
/-- the value's string and list are of lengths that fit, and the list reads -/
def VOk (w : World) (B : Nat) (v : VC) : Prop := v.s.size ≤ maxLen ∧ v.ns.length ≤ maxLen ∧ Rd w B v.A (v.ns.map (.int .i64))
theorem VOk.below {w w' : World} {B : Nat} {v : VC} (h : VOk w B v) (hb : Below B w w') : VOk w' B v := ⟨h.1, h.2.1, h.2.2.below hb⟩
theorem VOk.mono {w : World} {B B' : Nat} {v : VC} (h : VOk w B v) (hb : B ≤ B') : VOk w B' v := ⟨h.1, h.2.1, h.2.2.mono hb⟩

/-- the error of the value number i in a field -/
def encE (vs : List VC) (i : Nat) (f : Fld) : Int := valE f.1 f.2 (vs.getD i vc0).n (vs.getD i vc0).s (vs.getD i vc0).ns

set_option maxRecDepth 100000 in
set_option maxHeartbeats 2000000 in
theorem Encode1_any (i : Nat) (k z : Int) (g : Nat) (A : Option Addr) (c : Nat) (vs : List VC) (w : World) (hi : i < vs.length) (hvl : vs.length ≤ 1000) (hz : fldE k z = 0) (hg : w.cell? ⟨g, 0, none⟩ = some (.slice A vs.length c))
    (hr : Rd w w.heap.size A (vcsV vs)) (hv : VOk w w.heap.size (vs.getD i vc0)) :
    Calls Try.prog 70 #[.int .i64 i, .agg #[.int .i64 k, .int .i64 z], .pointer (some ⟨g, 0, none⟩)] w fun e w' => e = .returned (.int .i64 (encE vs i (k, z))) ∧ Below w.heap.size w w' := by
  obtain ⟨b, o, rfl, hB, hc⟩ := hr.opened (by rw [vcsV_length]; omega)
  obtain ⟨g0, g1, g2⟩ := vcsV_get vs i hi
  have c0 : w.cell? ⟨b, o + i * 3, none⟩ = _ := hc _ _ g0
  have c1 : w.cell? ⟨b, o + i * 3 + 1, none⟩ = _ := hc _ _ g1
  have c2 : w.cell? ⟨b, o + i * 3 + 1 + 1, none⟩ = _ := hc _ _ g2
  have hget : vs.getD i vc0 = vs[i] := by rw [List.getD_eq_getElem?_getD, List.getElem?_eq_getElem hi]; rfl
  have hfin : encE vs i (k, z) = valE k z vs[i].n vs[i].s vs[i].ns := by unfold encE; rw [hget]
  rw [hget] at hv
  obtain ⟨⟨n, s, A', c', ns⟩, hx⟩ : ∃ v, v = vs[i] := ⟨_, rfl⟩
  rw [← hx] at c0 c1 c2 hfin hv
  dsimp only at c0 c1 c2 hfin hv
  obtain ⟨hv1, hv2, hv3⟩ := hv
  dsimp only at hv1 hv2 hv3
  have HF := Lib.hid hfin
  have HV3 := Lib.hid hv3
  have HZ := Lib.hid hz
  have hgl := block_lt_of_cell hg
  dsimp only at hgl
  clear hfin hx hget g0 g1 g2 hc hr hv3 hz
  go_enter Try.func70, Try.ntmps70
  go_wp2_with fail
  (refine wp_region_quiet_below (by kernel_rfl) (by kernel_rfl) ?_; (repeat (go_big_quiet_step ((first | (go_at_call 71; exact Calls.regrown_of (valueErr_any k z n s A' c' ns _ HZ.out hv1 hv2 (Rd.reg HV3.out (bel_alloc (Below.refl _ _) _)))))))); (with_reducible refine wpQuiet_nil ?_); intro W1 hreg; have hbW1 := below_of_reg hreg; clear hreg; obtain ⟨hcW1, hfW1⟩ := bcell hbW1)
  go_wp2_with fail
  go_ret
  exact ⟨retI HF.out.symm, bel_trans (bel_alloc (Below.refl _ _) _) hbW1⟩

set_option maxRecDepth 100000 in
set_option maxHeartbeats 2000000 in
theorem eachEnc_any (A A2 : Option Addr) (c c2 g : Nat) (l : List Fld) (vs : List VC) (w : World) (hlen : l.length ≤ 1000) (hvl : vs.length = l.length) (hg : w.cell? ⟨g, 0, none⟩ = some (.slice A2 vs.length c2))
    (hz : ∀ j (h : j < l.length), fldE l[j].1 l[j].2 = 0) (hr : Rd w w.heap.size A (fldsV l)) (hr2 : Rd w w.heap.size A2 (vcsV vs)) (hv : ∀ j, j < vs.length → VOk w w.heap.size (vs.getD j vc0)) :
    Calls Try.prog 50 #[.slice A l.length c, .func (.func 70) #[] #[.pointer (some ⟨g, 0, none⟩)]] w fun e w' =>
      e = .returned (.tuple #[.int .i64 (eachE (encE vs) 0 l).1, .int .i64 (eachE (encE vs) 0 l).2]) ∧ Below w.heap.size w w' := by
  have hgl := block_lt_of_cell hg
  dsimp only at hgl
  have HV := Lib.hid hv
  have HR2 := Lib.hid hr2
  have HVL := Lib.hid hvl
  have HZ := Lib.hid hz
  have HG := Lib.hid hg
  clear hv hr2 hvl hz hg
  go_enter Try.func50, Try.ntmps50
  go_wp2
  go_loopw [11] (fun i wr => ∃ k : Nat, k ≤ l.length ∧ i = .int .i64 k ∧ Below w.heap.size w wr ∧ eachE (encE vs) 0 l = eachE (encE vs) k (l.drop k)) (fun i _ => l.length - (intOf i).toNat)
  case atStart => exact ⟨0, Nat.zero_le _, rfl, Below.refl _ _, rfl⟩
  case round =>
    obtain ⟨k, hk, rfl, hb, hf⟩ := hrel
    have HF := Lib.hid hf
    clear hf
    by_cases hlt : k < l.length
    · have hr3 := hr.below hb
      obtain ⟨b, o, rfl, hB, hc⟩ := hr3.opened (by rw [fldsV_length]; omega)
      obtain ⟨g0, g1⟩ := fldsV_get l k hlt
      have c0 : wr.cell? ⟨b, o + k * 2, none⟩ = _ := hc _ _ g0
      have c1 : wr.cell? ⟨b, o + k * 2 + 1, none⟩ = _ := hc _ _ g1
      have hzk := HZ.out k hlt
      obtain ⟨fk, fs, hfk⟩ : ∃ x y, ((x, y) : Fld) = l[k] := ⟨_, _, rfl⟩
      rw [← hfk] at c0 c1 hzk
      dsimp only at c0 c1 hzk
      have hd : l.drop k = (fk, fs) :: l.drop (k + 1) := by rw [hfk]; exact List.drop_eq_getElem_cons hlt
      have HD := Lib.hid hd
      have hbs := hb.size
      have hcall : ∀ o', Calls Try.prog 70 #[.int .i64 k, .agg #[.int .i64 fk, .int .i64 fs], .pointer (some ⟨g, 0, none⟩)] (wr.alloc o') fun e w' => e = .returned (.int .i64 (encE vs k (fk, fs))) ∧ Below (wr.alloc o').heap.size (wr.alloc o') w' := fun o' => by
        have hb' : Below w.heap.size w (wr.alloc o') := bel_alloc hb _
        exact Encode1_any k fk fs g A2 c2 vs _ (by rw [HVL.out]; exact hlt) (by rw [HVL.out]; exact hlen) hzk ((hb'.cell (p := ⟨g, 0, none⟩) hgl).trans HG.out) (HR2.out.below' hb') (((HV.out k (by rw [HVL.out]; exact hlt)).below hb').mono hb'.size)
      have HC := Lib.hid hcall
      clear hd hfk g0 g1 hc hr hr3 hzk hcall
      by_cases h0 : encE vs k (fk, fs) = 0
      · have h0' : (encE vs k (fk, fs) != 0) = false := by rw [h0]; rfl
        have H0 := Lib.hid h0
        clear h0
        go_wp2_with (go_at_call 70; refine (HC.out _).mono ?_; rintro e w1 ⟨rfl, hb1⟩)
        go_roundw
        case rel => exact ⟨k + 1, by omega, by go_num, (hb.alloc hbs _).trans (hb1.mono (by simp; omega)), by rw [HF.out, HD.out, eachE, if_pos H0.out]⟩
        case measure => simp [intOf]; omega
      · have h0' : (encE vs k (fk, fs) != 0) = true := by simp [h0]
        have H0 := Lib.hid h0
        clear h0
        go_wp2_with (go_at_call 70; refine (HC.out _).mono ?_; rintro e w1 ⟨rfl, hb1⟩)
        go_ret2
        have e : eachE (encE vs) 0 l = ((k : Int), encE vs k (fk, fs)) := by rw [HF.out, HD.out, eachE, if_neg H0.out]
        exact ⟨retII (by rw [e]) (by rw [e]), (hb.alloc hbs _).trans (hb1.mono (by simp; omega))⟩
    · go_wp2
      go_ret2
      exact ⟨retII (by rw [HF.out, List.drop_of_length_le (by omega)]; rfl) (by rw [HF.out, List.drop_of_length_le (by omega)]; rfl), hb⟩

/-- the bytes of a value in a field -/
def fieldL (k z n : Int) (s : ByteArray) (ns : List Int) : List UInt8 :=
  if k = 0 then lit n z.toNat else if k = 1 then bl s else if k = 2 then lit s.size 1 ++ bl s else if k = 3 then lit ns.length 1 ++ ns.flatMap (fun x => lit x 2) else zerosL z.toNat
def encAt (l : List Fld) (vs : List VC) (k : Nat) : List UInt8 := (List.range k).flatMap fun i => fieldL (l.getD i (0, 0)).1 (l.getD i (0, 0)).2 (vs.getD i vc0).n (vs.getD i vc0).s (vs.getD i vc0).ns
theorem encAt_succ (l : List Fld) (vs : List VC) (k : Nat) : encAt l vs (k + 1) = encAt l vs k ++ fieldL (l.getD k (0, 0)).1 (l.getD k (0, 0)).2 (vs.getD k vc0).n (vs.getD k vc0).s (vs.getD k vc0).ns := by
  unfold encAt
  rw [List.range_succ, List.flatMap_append]
  simp
theorem flatMap_lit2 (ns : List Int) : (ns.flatMap (fun x => lit x 2)).length = 2 * ns.length := by
  induction ns with
  | nil => rfl
  | cons x l ih => rw [List.flatMap_cons, List.length_append, ih, lit_length]; simp; omega
/-- what valueErr's 0 says of the lengths -/
theorem valE_zero {k z n : Int} {s : ByteArray} {ns : List Int} (h : valE k z n s ns = 0) :
    formB k n s ns = true ∧ fitsB k z n ns = true ∧ (k = 1 → (s.size : Int) = z) ∧ (opn k = true → (s.size : Int) ≤ z ∧ (ns.length : Int) ≤ z) := by
  unfold valE at h
  simp only [firstE] at h
  cases h1 : formB k n s ns
  · rw [h1] at h; simp [unl] at h
  · cases h2 : fitsB k z n ns
    · rw [h1, h2] at h; simp [unl] at h
    · rw [h1, h2] at h
      refine ⟨rfl, rfl, ?_, ?_⟩
      · rintro rfl
        cases h3 : ((s.size : Int) == z)
        · simp [unl, h3] at h
        · simpa using h3
      · intro h4
        cases h3 : (!(k == 1) || ((s.size : Int) == z))
        · simp [unl, h3] at h
        · cases h5 : (decide ((s.size : Int) ≤ z) && decide ((ns.length : Int) ≤ z))
          · simp [unl, h3, h4, h5] at h
          · simpa using h5
end Go.Proofs.Ytiomfkgbaemmkaa
