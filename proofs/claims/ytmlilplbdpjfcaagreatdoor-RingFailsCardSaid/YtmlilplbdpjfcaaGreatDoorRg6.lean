/-
  Chapter 20: logs restarted.
-/
import Derived.Test.YtmlilplbdpjfcaaGreatDoorRg5
namespace Go.Proofs.YtmlilplbdpjfcaaGreatDoor
set_option linter.unusedVariables false
set_option linter.unusedSimpArgs false
set_option maxRecDepth 4000
open Go.RowKit Go.Sort
theorem recsV_take (l : List RecP) (k : Nat) : (recsV l).take (k * 3) = recsV (l.take k) := by
 induction l generalizing k with
 | nil => simp [recsV]
 | cons x l ih =>
  cases k with
  | zero => simp [recsV]
  | succ k =>
   have : (k + 1) * 3 = 3 + k * 3 := by omega
   rw [this, List.take_succ_cons]
   show (recC x ++ recsV l).take (3 + k * 3) = recC x ++ recsV (l.take k)
   rw [← ih k, List.take_append, show (recC x).length = 3 from rfl, Nat.add_sub_cancel_left, List.take_of_length_le (by show 3 ≤ _; omega)]
theorem recsV_drop (l : List RecP) (k : Nat) : (recsV l).drop (k * 3) = recsV (l.drop k) := by
 induction l generalizing k with
 | nil => simp [recsV]
 | cons x l ih =>
  cases k with
  | zero => simp
  | succ k =>
   have : (k + 1) * 3 = 3 + k * 3 := by omega
   rw [this, List.drop_succ_cons]
   show (recC x ++ recsV l).drop (3 + k * 3) = recsV (l.drop k)
   rw [← ih k, List.drop_append, show (recC x).length = 3 from rfl, Nat.add_sub_cancel_left, List.drop_of_length_le (by show 3 ≤ _; omega), List.nil_append]
def flt (g : RecP → Bool) (l : List RecP) (m : Nat) : List RecP := (l.take m).filter fun x => !g x
theorem flt_succ (g : RecP → Bool) (l : List RecP) (m : Nat) (h : m < l.length) : flt g l (m + 1) = if g l[m] then flt g l m else flt g l m ++ [l[m]] := by
 unfold flt
 rw [List.take_succ_eq_append_getElem h, List.filter_append]
 cases hg : g l[m] <;> simp [hg]
theorem del_init (g : RecP → Bool) (l : List RecP) (h : ¬ fIdx g l = -1) : ∃ i, ∃ hi : i < l.length, fIdx g l = (i : Nat) ∧ g l[i] = true ∧ flt g l (i + 1) = l.take i := by
 unfold fIdx at h ⊢
 cases hf : l.findIdx? g with
 | none => rw [hf] at h; exact absurd rfl h
 | some i =>
  rw [List.findIdx?_eq_some_iff_getElem] at hf
  obtain ⟨h1, h2, h3⟩ := hf
  refine ⟨i, h1, rfl, h2, ?_⟩
  rw [flt_succ g l i h1, if_pos h2]
  unfold flt
  rw [List.filter_eq_self]
  intro x hx
  obtain ⟨j, hj, rfl⟩ := List.getElem_of_mem hx
  rw [List.length_take] at hj
  rw [List.getElem_take, Bool.not_eq_true']
  have := h3 j (by omega)
  simpa using this
theorem recAtD {X : World} {B b o m : Nat} {l : List RecP} {xs : List Value} (h : Rd X B (some ⟨b, o, none⟩) xs) (hd : xs.drop (m * 3) = recsV (l.drop m)) (hm : m < l.length) : ∀ (j : Nat) (u : Value), [Value.int .i64 l[m].l, .int .i64 l[m].s, .string l[m].b][j]? = some u → X.cell? ⟨b, o + m * 3 + j, none⟩ = some u := fun j u hu => by
 have hj : j < 3 := (List.getElem?_eq_some_iff.1 hu).1
 have h2 : xs[m * 3 + j]? = some u := by
  rw [← List.getElem?_drop, hd, List.drop_eq_getElem_cons hm]
  show (recC l[m] ++ recsV (l.drop (m + 1)))[j]? = some u
  rw [List.getElem?_append_left (by exact hj)]
  exact hu
 obtain ⟨b', o', e, _, hc⟩ := h (m * 3 + j) u h2
 injection e with e
 injection e with e1 e2
 subst e1 e2
 rw [Nat.add_assoc]; exact hc
theorem del_step (g : RecP → Bool) (l : List RecP) (m : Nat) (xs : List Value) (hm : m < l.length) (hl : xs.length = l.length * 3) (ht : xs.take ((flt g l m).length * 3) = recsV (flt g l m)) (hd : xs.drop (m * 3) = recsV (l.drop m)) (hg : g l[m] = false) (hk : (flt g l m).length ≤ m) :
 (xs.take (0 + (flt g l m).length * 3) ++ recC l[m] ++ xs.drop (0 + (flt g l m).length * 3 + 3)).length = l.length * 3 ∧
 (xs.take (0 + (flt g l m).length * 3) ++ recC l[m] ++ xs.drop (0 + (flt g l m).length * 3 + 3)).take ((flt g l (m + 1)).length * 3) = recsV (flt g l (m + 1)) ∧
 (xs.take (0 + (flt g l m).length * 3) ++ recC l[m] ++ xs.drop (0 + (flt g l m).length * 3 + 3)).drop ((m + 1) * 3) = recsV (l.drop (m + 1)) := by
 have e1 : flt g l (m + 1) = flt g l m ++ [l[m]] := by rw [flt_succ g l m hm, hg]; rfl
 have hc : (recC l[m]).length = 3 := rfl
 have hlt : (xs.take ((flt g l m).length * 3)).length = (flt g l m).length * 3 := by rw [List.length_take]; omega
 rw [Nat.zero_add]
 refine ⟨?_, ?_, ?_⟩
 · simp only [List.length_append, List.length_drop, hlt, hc]; omega
 · rw [e1, List.length_append, recsV_append, ← ht]
   have : ((flt g l m).length + [l[m]].length) * 3 = (xs.take ((flt g l m).length * 3) ++ recC l[m]).length := by
    rw [List.length_append, hlt, hc]; show ((flt g l m).length + 1) * 3 = _; omega
   rw [this, List.take_left]
   congr 1
 · have e2 : (m + 1) * 3 = (xs.take ((flt g l m).length * 3) ++ recC l[m]).length + ((m + 1) * 3 - ((flt g l m).length * 3 + 3)) := by
    rw [List.length_append, hlt, hc]; omega
   rw [e2, ← List.drop_drop, List.drop_left, List.drop_drop]
   have e3 : (flt g l m).length * 3 + 3 + ((m + 1) * 3 - ((flt g l m).length * 3 + 3)) = m * 3 + 3 := by omega
   rw [e3, ← List.drop_drop, hd, List.drop_eq_getElem_cons hm]
   show (recC l[m] ++ recsV (l.drop (m + 1))).drop 3 = _
   rw [show (3 : Nat) = (recC l[m]).length from rfl, List.drop_left]
theorem drop_next {l : List RecP} {m : Nat} {xs : List Value} (hd : xs.drop (m * 3) = recsV (l.drop m)) (hm : m < l.length) : xs.drop ((m + 1) * 3) = recsV (l.drop (m + 1)) := by
 have e3 : (m + 1) * 3 = m * 3 + 3 := by omega
 rw [e3, ← List.drop_drop, hd, List.drop_eq_getElem_cons hm]
 show (recC l[m] ++ recsV (l.drop (m + 1))).drop 3 = _
 rw [show (3 : Nat) = (recC l[m]).length from rfl, List.drop_left]
theorem del_none (g : RecP → Bool) (l : List RecP) (h : fIdx g l = -1) : l.filter (fun x => !g x) = l := by
 unfold fIdx at h
 cases hf : l.findIdx? g with
 | some i => rw [hf] at h; simp at h
 | none =>
  rw [List.findIdx?_eq_none_iff] at hf
  rw [List.filter_eq_self]
  intro x hx
  rw [hf x hx]; rfl
theorem deleteRec_any (g : RecP → Bool) (l : List RecP) (A : Option Addr) (c B : Nat) (f : FuncId) (cap : List Value) (w : World) (ho : w.ownsRow B 98 3 (.slice A l.length c) l.length (recsV l)) (hlen : l.length ≤ 1000) (hfc : ∀ (vs : Array Value) (W : World), (callFunc f vs).run Tryz.prog W = .ok (.enter f vs) W)
 (hcl : ∀ X L, St (Value.slice A l.length c).ownBlock.toList w X L → ∀ x ∈ l, Calls Tryz.prog f ([recV x] ++ cap).toArray X fun e X' => e = .returned (.bool (g x)) ∧ Below X.heap.size X X') :
 Calls Tryz.prog 63 #[.slice A l.length c, .func (.func f) #[] cap.toArray] w fun e w' => ∃ xs', e = .returned (.slice A (l.filter fun x => !g x).length c) ∧ xs'.take ((l.filter fun x => !g x).length * 3) = recsV (l.filter fun x => !g x) ∧
  St (Value.slice A l.length c).ownBlock.toList w w' [.row (.slice A l.length c) l.length 98 3 xs'] := by
 refine st_enter (N := 42) Tryz.func63 rfl rfl rfl (fun a0 h0 => ?_)
 have S0 := St.initO ho
 refine st_seq (st_reg ?_)
 refine ma h0 rfl rfl fun a1 h1 => ?_
 refine nsr ?_
 refine mv h1 rfl rfl fun a2 h2 => ?_
 refine mv h2 rfl rfl fun a3 h3 => ?_
 refine sl_bel h3 (wn rfl) (ex_call (fun _ _ => by kernel_rfl) (h3.evs rfl) rfl) rfl rfl S0 (recIndexFunc_any g l A c f cap _ (S0.rdOf (i := 0) rfl) hlen hfc (fun X hX x hx => hcl X _ (S0.grow hX) x hx)) fun a4 X4 h4 S4 => ?_
 refine ma h4 rfl rfl fun a5 h5 => ?_
 refine st_nil (go_then (st_seq (st_seq (st_reg ?_))))
 refine mv h5 rfl rfl fun a6 h6 => ?_
 refine sv h6 (ex_eql (h6.ev rfl) (h6.ev rfl)) fun a7 h7 => ?_
 refine st_nil (go_then ?_)
 refine st_if (h7.ev rfl) (fun hc0 => ?_) (fun hc0 => ?_)
 ·
  have hd := del_none g l (by simpa using hc0)
  refine st_seq (st_reg ?_)
  refine mv h7 rfl rfl fun a8 h8 => ?_
  refine ma h8 rfl rfl fun a9 h9 => ?_
  refine st_nil (go_then (wp_ret (ret_then ?_)))
  refine fin1 h9 rfl rfl ?_
  exact ⟨recsV l, by rw [hd], by rw [hd, List.take_of_length_le (by rw [recsV_length]; omega)], S4⟩
 ·
  obtain ⟨i0, hi0, hfi, hgi, hfl⟩ := del_init g l (by simpa using hc0)
  rw [hfi] at h7
  have hrow := ho.2
  rcases hrow with ⟨e0, e00⟩ | ⟨g0, cap0, cur0, e1, _, _, hnc, _⟩
  · exact absurd e00 (by omega)
  injection e1 with e1 e2 e3
  subst e1 e3
  have hk0 : (flt g l (i0 + 1)).length = i0 := by rw [hfl, List.length_take]; omega
  have hfull : flt g l l.length = l.filter fun x => !g x := by unfold flt; rw [List.take_length]
  refine wp_skip (go_then (st_seq (st_seq (st_reg ?_))))
  refine mv h7 rfl rfl fun a10 h10 => ?_
  refine sv h10 (ex_add (h10.ev rfl) (h10.ev rfl) (by omega)) fun a11 h11 => ?_
  refine ma h11 rfl rfl fun a12 h12 => ?_
  have e8 : Value.int .i64 (i0 : Int) = Value.int .i64 (((flt g l (i0 + 1)).length : Nat) : Int) := by rw [hk0]
  rw [e8] at h12
  refine st_nil (go_then (wp_block ?_))
  refine st_loop h12 S4 [4, 0, 1] (fun (q : Nat × List Value) => [(6, .int .i64 (q.1 : Nat)), (5, .int .i64 ((flt g l q.1).length : Nat))]) (fun (q : Nat × List Value) => (flt g l q.1).length < q.1 ∧ q.1 ≤ l.length ∧ q.2.length = l.length * 3 ∧ q.2.take ((flt g l q.1).length * 3) = recsV (flt g l q.1) ∧ q.2.drop (q.1 * 3) = recsV (l.drop q.1)) (fun q L => L.set 0 (.row (.slice (some ⟨g0, 0, none⟩) l.length c) l.length 98 3 q.2)) (fun (q : Nat × List Value) => l.length - q.1) ((i0 + 1, recsV l)) (⟨by show (flt g l (i0 + 1)).length < i0 + 1; omega, hi0, recsV_length l, by show (recsV l).take ((flt g l (i0 + 1)).length * 3) = recsV (flt g l (i0 + 1)); rw [hfl, List.length_take, Nat.min_eq_left (by omega), recsV_take], recsV_drop l _⟩) ⟨rfl, rfl, rfl, rfl, rfl, trivial⟩ (S4) ?_
  intro q a13 X13 hF0 h13 S13
  obtain ⟨hF1, hF2, hF3, hF4, hF5⟩ := hF0
  refine st_seq (st_seq (st_reg ?_))
  refine mv h13 rfl rfl fun a14 h14 => ?_
  refine mv h14 rfl rfl fun a15 h15 => ?_
  refine sv h15 (ex_len Tryz.underlying24 (h15.ev rfl)) fun a16 h16 => ?_
  refine sv h16 (ex_lss (h16.ev rfl) (h16.ev rfl)) fun a17 h17 => ?_
  refine st_nil (go_then ?_)
  refine st_if (h17.ev rfl) (fun hc1 => ?_) (fun hc1 => ?_)
  ·
   have hlt : q.1 < l.length := by have := of_decide_eq_true hc1; omega
   refine wp_skip (go_then (st_seq (wp_block (st_seq (st_reg ?_)))))
   refine mv h17 rfl rfl fun a18 h18 => ?_
   refine mv h18 rfl rfl fun a19 h19 => ?_
   refine sv h19 (ex_index (i := q.1) (sz := 3) Tryz.underlying24 (by kernel_rfl) (h19.ev rfl) (h19.ev rfl) (by omega) (by omega) rfl) fun a20 h20 => ?_
   refine sv (v := recV l[q.1]) h20 (ex_loads (by kernel_rfl) (by kernel_rfl) (h20.ev rfl) (recAtD (S13.rdOf (i := 0) rfl) hF5 hlt)) fun a21 h21 => ?_
   refine na (.agg #[.int .i64 0, .int .i64 0, .string ⟨#[]⟩]) h21 rfl S13 fun b7 a22 X22 gb7 h22 S22 => ?_
   refine sl_store0 h22 (wn rfl) ⟨rfl, rfl⟩ (h22.ev rfl) (h22.ev rfl) rfl (by kernel_rfl) S22 (i := 0) rfl rfl rfl fun X23 S23 => ?_
   refine nsr ?_
   refine mv h22 rfl rfl fun a24 h24 => ?_
   refine sv (v := recV l[q.1]) h24 (ex_loads (by kernel_rfl) (by kernel_rfl) (h24.ev rfl) (S23.cellsAll (i := 0) rfl)) fun a25 h25 => ?_
   refine sl_bel h25 (wn rfl) (ex_callv hfc (h25.ev rfl) (h25.evs rfl) rfl) rfl rfl S23 (hcl _ _ S23 l[q.1] (List.getElem_mem _)) fun a26 X26 h26 S26 => ?_
   refine sv h26 (ex_not (h26.ev rfl)) fun a27 h27 => ?_
   refine st_nil (go_then ?_)
   refine st_if (h27.ev rfl) (fun hc2 => ?_) (fun hc2 => ?_)
   ·
    have hg : g l[q.1] = false := by simpa using hc2
    have hst := del_step g l q.1 q.2 hlt hF3 hF4 hF5 hg (by omega)
    have e6 : (flt g l (q.1 + 1)).length = (flt g l q.1).length + 1 := by rw [flt_succ g l q.1 hlt, hg]; simp
    have e5 : ((flt g l q.1).length : Int) + 1 = (((flt g l (q.1 + 1)).length : Nat) : Int) := by rw [e6]; rfl
    refine st_seq (st_reg ?_)
    refine mv h27 rfl rfl fun a28 h28 => ?_
    refine mv h28 rfl rfl fun a29 h29 => ?_
    refine sv (v := recV l[q.1]) h29 (ex_loads (by kernel_rfl) (by kernel_rfl) (h29.ev rfl) (S26.cellsAll (i := 0) rfl)) fun a30 h30 => ?_
    refine sv h30 (ex_index (i := (flt g l q.1).length) (sz := 3) Tryz.underlying24 (by kernel_rfl) (h30.ev rfl) (h30.ev rfl) (by omega) (by omega) rfl) fun a31 h31 => ?_
    refine sl_rowset h31 (wn rfl) ⟨rfl, rfl⟩ (h31.ev rfl) (h31.ev rfl) rfl (by kernel_rfl) S26 (i := 1) rfl rfl (by show 0 + (flt g l q.1).length * 3 + 3 ≤ l.length * 3; omega) fun X32 S32 => ?_
    refine st_nil (go_then (st_reg ?_))
    refine mv h31 rfl rfl fun a33 h33 => ?_
    refine sv h33 (ex_add (h33.ev rfl) (h33.ev rfl) (by omega)) fun a34 h34 => ?_
    refine ma h34 rfl rfl fun a35 h35 => ?_
    rw [e5] at h35
    refine st_nil (go_block (go_then (st_reg ?_)))
    refine mv h35 rfl rfl fun a36 h36 => ?_
    refine sv h36 (ex_add (h36.ev rfl) (h36.ev rfl) (by omega)) fun a37 h37 => ?_
    refine ma h37 rfl rfl fun a38 h38 => ?_
    refine st_nil (go_then ?_)
    exact ⟨(q.1 + 1, q.2.take (0 + (flt g l q.1).length * 3) ++ recC l[q.1] ++ q.2.drop (0 + (flt g l q.1).length * 3 + 3)), by show l.length - (q.1 + 1) < l.length - q.1; omega, ⟨by show (flt g l (q.1 + 1)).length < q.1 + 1; omega, hlt, hst⟩, h38.re ⟨rfl, rfl, rfl, rfl, rfl, trivial⟩, S32.sub (.cons _ (.cons_cons _ .slnil))⟩
   ·
    have hg : g l[q.1] = true := by simpa using hc2
    have e5 : flt g l (q.1 + 1) = flt g l q.1 := by rw [flt_succ g l q.1 hlt, hg]; rfl
    have e7 : ((flt g l q.1).length : Int) = (((flt g l (q.1 + 1)).length : Nat) : Int) := by rw [e5]
    rw [e7] at h27
    refine wp_skip (go_block (go_then (st_reg ?_)))
    refine mv h27 rfl rfl fun a39 h39 => ?_
    refine sv h39 (ex_add (h39.ev rfl) (h39.ev rfl) (by omega)) fun a40 h40 => ?_
    refine ma h40 rfl rfl fun a41 h41 => ?_
    refine st_nil (go_then ?_)
    exact ⟨(q.1 + 1, q.2), by show l.length - (q.1 + 1) < l.length - q.1; omega, ⟨by show (flt g l (q.1 + 1)).length < q.1 + 1; rw [e5]; omega, hlt, hF3, by show q.2.take ((flt g l (q.1 + 1)).length * 3) = recsV (flt g l (q.1 + 1)); rw [e5]; exact hF4, by show q.2.drop ((q.1 + 1) * 3) = recsV (l.drop (q.1 + 1)); exact drop_next hF5 hlt⟩, h41.re ⟨rfl, rfl, rfl, rfl, rfl, trivial⟩, S26.sub (.cons _ (.cons_cons _ .slnil))⟩
  ·
   have hge : l.length ≤ q.1 := by have := of_decide_eq_false hc1; omega
   have hq : q.1 = l.length := by omega
   have hq2 : flt g l q.1 = l.filter fun x => !g x := by rw [hq, hfull]
   have hcl2 : (flt g l q.1).length < c := by omega
   refine wp_exit ?_
   refine go_exit_then ?_
   refine go_exit_then ?_
   refine go_exit ?_
   refine go_then (st_seq (st_reg ?_))
   refine mv h17 rfl rfl fun a42 h42 => ?_
   refine mv h42 rfl rfl fun a43 h43 => ?_
   refine sv h43 (ex_slice (l := (flt g l q.1).length) (h := l.length) (sz := 3) Tryz.underlying24 (by kernel_rfl) (h43.ev rfl) (h43.ev rfl) rfl (by omega) hnc (.inl (by omega)) rfl) fun a44 h44 => ?_
   refine sl_rclear (zc := [.int .i64 0, .int .i64 0, .string ⟨#[]⟩]) h44 (wn rfl) ⟨rfl, rfl⟩ Tryz.underlying24 (by kernel_rfl) rfl rfl (h44.ev rfl) S13 (i := 0) rfl (by show 0 + (flt g l q.1).length * 3 + (l.length - (flt g l q.1).length) * 3 ≤ l.length * 3; omega) fun X45 S45 => ?_
   refine nsr ?_
   refine mv h44 rfl rfl fun a46 h46 => ?_
   refine mv h46 rfl rfl fun a47 h47 => ?_
   refine sv h47 (ex_slice (l := 0) (h := (flt g l q.1).length) (sz := 3) Tryz.underlying24 (by kernel_rfl) (h47.ev rfl) rfl (h47.ev rfl) (Nat.zero_le _) (by omega) (.inr rfl) rfl) fun a48 h48 => ?_
   refine ma h48 rfl rfl fun a49 h49 => ?_
   refine st_nil (go_then (wp_ret ?_))
   refine fin1 h49 rfl rfl ?_
   refine ⟨_, by rw [← hq2]; rfl, ?_, S45⟩
   rw [← hq2, ← hF4, Nat.zero_add, List.append_assoc, List.take_append_of_le_length (by rw [List.length_take]; omega), List.take_take, Nat.min_self]
theorem rs1_any (x : RecP) (o : Int) (b : Nat) (T : TypeId) (w : World) (hb : Box w b #[.int .i64 o] T) :
 Calls Tryz.prog 64 #[recV x, .pointer (some ⟨b, 0, none⟩)] w fun e w' => e = .returned (.bool (decide (x.l < o))) ∧ Below w.heap.size w w' := by
 refine st_enter (N := 8) Tryz.func64 rfl rfl rfl (fun a0 h0 => ?_)
 have S0 := St.init w
 refine st_seq (st_reg ?_)
 refine nb h0 rfl rfl S0 fun b2 a1 X1 gb2 h1 S1 => ?_
 refine ma h1 rfl rfl fun a2 h2 => ?_
 refine nsr ?_
 refine vf h2 0 0 rfl rfl rfl fun a3 h3 => ?_
 refine vl h3 S1 0 rfl rfl rfl rfl fun a4 h4 => ?_
 refine sv h4 (ex_load (by kernel_rfl) (h4.ev rfl) (box_cell (hb.below S1.below) rfl)) fun a5 h5 => ?_
 refine sv h5 (ex_lss (h5.ev rfl) (h5.ev rfl)) fun a6 h6 => ?_
 refine ma h6 rfl rfl fun a7 h7 => ?_
 refine st_nil (go_then (wp_ret ?_))
 refine fin1 h7 rfl rfl ?_
 exact ⟨rfl, S1.below⟩
theorem St.other {M : List Nat} {w X X' : World} {L L' : List Ent} {i j b n sz : Nat} {cs : Array Value} {T T' : TypeId} {v : Value} {xs : List Value} (h : St M w X L) (hi : L[i]? = some (.box b cs T)) (hj : L[j]? = some (.row v n T' sz xs)) (hij : i ≠ j) (hX : St v.ownBlock.toList X X' L') : Box X' b cs T := by
 have hb : Box X b cs T := h.at_ hi
 refine (hX.block b hb.lt (fun hm => ?_)).trans hb
 have hm' : v.ownBlock = some b := by simpa using hm
 obtain ⟨hli, hi2⟩ := List.getElem?_eq_some_iff.1 hi
 obtain ⟨hlj, hj2⟩ := List.getElem?_eq_some_iff.1 hj
 have hp := List.pairwise_iff_getElem.1 h.sep
 rcases Nat.lt_or_gt_of_ne hij with h1 | h1
 · exact hp i j hli hlj h1 b (by rw [hi2]; rfl) (by rw [hj2]; exact hm')
 · exact hp j i hlj hli h1 b (by rw [hj2]; exact hm') (by rw [hi2]; rfl)
def cl2 (r : RngP) : RngP := if (chkR r).2 = 0 then cloR r else rng0
def cl2E (r : RngP) : Int := if (chkR r).2 = 0 then cloE r else (chkR r).2
theorem cloE_zero {r : RngP} : cloE r = 0 ↔ nxtR r.nx ≤ 100000000 := by
 unfold cloE; rw [unl_zero (by decide)]; exact decide_eq_true_iff
theorem cl2_ok {r : RngP} (h : cl2E r = 0) : OkP r ∧ cl2 r = cloV r ∧ nxtR r.nx ≤ 100000000 := by
 unfold cl2E at h
 split at h
 · rename_i h1
   refine ⟨ok_iff.1 h1, ?_, cloE_zero.1 h⟩
   unfold cl2 cloR; rw [if_pos h1, if_pos h]
 · rename_i h1; exact absurd h h1
theorem cl2_bad {r : RngP} (h : cl2E r ≠ 0) : cl2 r = rng0 := by
 unfold cl2E at h; unfold cl2
 split at h
 · rename_i h1
   rw [if_pos h1]; unfold cloR; rw [if_neg h]
 · rename_i h1; rw [if_neg h1]
theorem cl2_bd (r : RngP) (hlen : r.rs.length ≤ 1000) : 0 ≤ (cl2 r).nx ∧ (cl2 r).nx ≤ 100000000 ∧ (cl2 r).rs.length ≤ 1000 := by
 by_cases h : cl2E r = 0
 · obtain ⟨h1, h2, h3⟩ := cl2_ok h
   rw [h2]
   have := h1.h.nx
   have := nxtR_in (p := r.nx)
   exact ⟨by show 0 ≤ nxtR r.nx; omega, h3, hlen⟩
 · rw [cl2_bad h]; exact ⟨by decide, by decide, by decide⟩
theorem Closed_two (r : RngP) (A : Option Addr) (c : Nat) (w : World) (hr : Rd w w.heap.size A (recsV r.rs)) (hlen : r.rs.length ≤ 1000) (hx : ∀ x ∈ r.rs, I6 x.l) :
 Calls Tryz.prog 13 #[ringV r A c] w fun e w' => ∃ A' c', e = .returned (.tuple #[ringV (cl2 r) A' c', .int .i64 (cl2E r)]) ∧ w'.ownsRow w.heap.size 98 3 (.slice A' (cl2 r).rs.length c') (cl2 r).rs.length (recsV (cl2 r).rs) ∧ Below w.heap.size w w' := Closed_any r A c w hr hlen hx
theorem has_pos {r : RngP} (h : OkP r) (n : Int) : (decide (n ≥ 0) && hasR r.rs n) = hasR r.rs n := by
 cases hh : hasR r.rs n with
 | false => simp
 | true =>
  unfold hasR at hh
  obtain ⟨x, hx, h2⟩ := List.any_eq_true.1 hh
  obtain ⟨k, hk, rfl⟩ := List.getElem_of_mem hx
  have := (h.rcd k hk).1
  have h3 : r.rs[k].l = n := by simpa using h2
  rw [decide_eq_true (by omega)]; rfl
def rs2E (r : RngP) (c o : Int) : Int := firstE [cl2E r, unl (o == (cl2 r).nx + 1 || (decide (o ≥ 0) && hasR (cl2 r).rs o)) 6, unl (c == 0 || (decide (c ≥ o) && hasR (cl2 r).rs c)) 6, unl (decide ((cl2 r).r.s < 60000)) 2]
theorem rs2E_eq (r : RngP) (c o : Int) : rs2E r c o = if (chkR r).2 = 0 then rsaE r c o else (chkR r).2 := by
 by_cases h : cl2E r = 0
 · obtain ⟨h1, h2, h3⟩ := cl2_ok h
   have hc : (chkR r).2 = 0 := ok_iff.2 h1
   rw [if_pos hc]
   unfold rs2E rsaE
   rw [h2]
   show firstE [cl2E r, unl (o == nxtR r.nx + 1 || (decide (o ≥ 0) && hasR r.rs o)) 6, unl (c == 0 || (decide (c ≥ o) && hasR r.rs c)) 6, unl (decide (r.r.s < 60000)) 2] = _
   rw [has_pos h1, h, cloE_zero.2 h3]
 · have e1 : rs2E r c o = cl2E r := by unfold rs2E; simp [firstE, h]
   rw [e1]
   unfold cl2E at h ⊢
   split
   · rename_i h1
     rw [if_pos h1] at h
     unfold rsaE
     simp [firstE, h]
   · rfl
theorem Restarted_any (r : RngP) (A : Option Addr) (c : Nat) (cp ol : Int) (w : World) (hr : Rd w w.heap.size A (recsV r.rs)) (hlen : r.rs.length ≤ 1000) (hx : ∀ x ∈ r.rs, I6 x.l) :
 Calls Tryz.prog 15 #[ringV r A c, .int .i64 cp, .int .i64 ol] w fun e w' => ∃ A' c', e = .returned (.tuple #[ringV (if rs2E r cp ol = 0 then rsaV r cp ol else rng0) A' c', .int .i64 (rs2E r cp ol)]) ∧ w'.ownsRow w.heap.size 98 3 (.slice A' (if rs2E r cp ol = 0 then rsaV r cp ol else rng0).rs.length c') (if rs2E r cp ol = 0 then rsaV r cp ol else rng0).rs.length (recsV (if rs2E r cp ol = 0 then rsaV r cp ol else rng0).rs) ∧ Below w.heap.size w w' := by
 obtain ⟨hb1, hb2, hb3⟩ := cl2_bd r hlen
 refine st_enter (N := 65) Tryz.func15 rfl rfl rfl (fun a0 h0 => ?_)
 have S0 := St.init w
 refine st_seq (st_reg ?_)
 refine nb h0 rfl rfl S0 fun b3 a1 X1 gb3 h1 S1 => ?_
 refine nb h1 rfl rfl S1 fun b5 a2 X2 gb5 h2 S2 => ?_
 refine na (.agg #[.int .i64 0, .int .i64 0, .int .i64 0, .int .i64 0, .int .i64 0, .int .i64 0, .int .i64 0, .slice none 0 0, .int .i64 0]) h2 rfl S2 fun b6 a3 X3 gb6 h3 S3 => ?_
 refine ma h3 rfl rfl fun a4 h4 => ?_
 refine nsr ?_
 refine sv h4 (ex_loads (by kernel_rfl) (by kernel_rfl) (h4.ev rfl) (S3.cellsAll (i := 2) rfl)) fun a5 h5 => ?_
 refine sl_ownt h5 (wn rfl) (ex_call (fun _ _ => by kernel_rfl) (h5.evs rfl) rfl) rfl rfl S3 (Closed_two r A c _ (S3.rd0 hr) hlen hx) (Nat.le_refl _) fun A11 c11 a6 X6 h6 S6 => ?_
 refine mv h6 rfl rfl fun a7 h7 => ?_
 refine vx h7 rfl rfl rfl fun a8 h8 => ?_
 refine vx h8 rfl rfl rfl fun a9 h9 => ?_
 refine sl_store0 h9 (wn rfl) ⟨rfl, rfl⟩ (h9.ev rfl) (h9.ev rfl) rfl (by kernel_rfl) S6 (i := 3) rfl rfl rfl fun X10 S10 => ?_
 refine ma h9 rfl rfl fun a11 h11 => ?_
 refine st_nil (go_then (st_seq ?_))
 apply dr_flow h11 [false, false, false, false, false, false, false, false, false, false, false, false, false, false, false, false, false, false, false, false, false, false, false, false, false, false, false, false] _ (by kernel_rfl)
 case h =>
  refine qv h11 (fun X hX => ex_move (h11.ev rfl)) fun a12 h12 => ?_
  refine qv h12 (fun X hX => ex_load (by kernel_rfl) (h12.ev rfl) ((S10.grow hX).cell (i := 2) rfl rfl)) fun a13 h13 => ?_
  refine qv h13 (fun X hX => ex_field (off := 8) (j := 8) (by kernel_rfl) (h13.ev rfl) rfl) fun a14 h14 => ?_
  refine qv h14 (fun X hX => ex_load (by kernel_rfl) (h14.ev rfl) ((S10.grow hX).cell (i := 3) rfl rfl)) fun a15 h15 => ?_
  refine qv h15 (fun X hX => ex_add (h15.ev rfl) (h15.ev rfl) (by omega)) fun a16 h16 => ?_
  refine qv h16 (fun X hX => ex_eql (h16.ev rfl) (h16.ev rfl)) fun a17 h17 => ?_
  refine qv h17 (fun X hX => ex_move (h17.ev rfl)) fun a18 h18 => ?_
  apply sq_or h18 20 rfl 5 25
  case hf =>
   intro gc20
   refine sq_val h18 (wanted_yes h18 _ rfl rfl rfl gc20) rfl rfl (fun X hX => (ex_field (off := 7) (j := 7) (by kernel_rfl) (h18.ev rfl) rfl)) fun a19 h19 => ?_
   refine sq_val h19 (wanted_yes h19 _ rfl rfl rfl gc20) rfl rfl (fun X hX => (ex_load (by kernel_rfl) (h19.ev rfl) ((S10.grow hX).cell (i := 3) rfl rfl))) fun a20 h20 => ?_
   refine sq_val h20 (wanted_yes h20 _ rfl rfl rfl gc20) rfl rfl (fun X hX => (ex_load (by kernel_rfl) (h20.ev rfl) ((S10.grow hX).cell (i := 2) rfl rfl))) fun a21 h21 => ?_
   refine sq_bel h21 (wanted_yes h21 _ rfl rfl rfl gc20) rfl rfl (fun X => (ex_call (fun _ _ => by kernel_rfl) (h21.evs rfl) rfl)) (fun X hX => has_rec (cl2 r).rs A11 c11 ol 0 _ ((S10.grow hX).rdOf (i := 0) rfl) hb3) fun a22 h22 => ?_
   refine qv h22 (fun X hX => ex_pick_f (h22.ev rfl) gc20 (h22.ev rfl)) fun a23 h23 => ?_
   exact sq_nil (h23.mid (m := [(_, _), (_, _), (_, _), (_, _)]) rfl)
  case ht =>
   intro gc20
   refine qo h18 rfl rfl rfl gc20 rfl rfl fun a24 h24 => ?_
   refine qo h24 rfl rfl rfl gc20 rfl rfl fun a25 h25 => ?_
   refine qo h25 rfl rfl rfl gc20 rfl rfl fun a26 h26 => ?_
   refine qo h26 rfl rfl rfl gc20 rfl rfl fun a27 h27 => ?_
   refine qv h27 (fun X hX => ex_pick_t (h27.ev rfl) gc20 (h27.ev rfl)) fun a28 h28 => ?_
   exact sq_nil (h28.mid (m := [(_, _), (_, _), (_, _), (_, _)]) rfl)
  case h =>
   intro a29 h29
   refine sq_pure h29 (wn rfl) rfl rfl (fun X => (ex_call (fun _ _ => by kernel_rfl) (h29.evs rfl) rfl)) (fun X hX => logring_unless_any _ _ _) fun a30 h30 => ?_
   refine qv h30 (fun X hX => ex_move (h30.ev rfl)) fun a31 h31 => ?_
   refine qv h31 (fun X hX => ex_eql (h31.ev rfl) (h31.ev rfl)) fun a32 h32 => ?_
   refine qv h32 (fun X hX => ex_move (h32.ev rfl)) fun a33 h33 => ?_
   apply sq_or h33 29 rfl 6 35
   case hf =>
    intro gc29
    refine sq_val h33 (wanted_yes h33 _ rfl rfl rfl gc29) rfl rfl (fun X hX => (ex_field (off := 7) (j := 7) (by kernel_rfl) (h33.ev rfl) rfl)) fun a34 h34 => ?_
    refine sq_val h34 (wanted_yes h34 _ rfl rfl rfl gc29) rfl rfl (fun X hX => (ex_load (by kernel_rfl) (h34.ev rfl) ((S10.grow hX).cell (i := 3) rfl rfl))) fun a35 h35 => ?_
    refine sq_val h35 (wanted_yes h35 _ rfl rfl rfl gc29) rfl rfl (fun X hX => (ex_move (h35.ev rfl))) fun a36 h36 => ?_
    refine sq_val h36 (wanted_yes h36 _ rfl rfl rfl gc29) rfl rfl (fun X hX => (ex_load (by kernel_rfl) (h36.ev rfl) ((S10.grow hX).cell (i := 2) rfl rfl))) fun a37 h37 => ?_
    refine sq_bel h37 (wanted_yes h37 _ rfl rfl rfl gc29) rfl rfl (fun X => (ex_call (fun _ _ => by kernel_rfl) (h37.evs rfl) rfl)) (fun X hX => has_rec (cl2 r).rs A11 c11 cp ol _ ((S10.grow hX).rdOf (i := 0) rfl) hb3) fun a38 h38 => ?_
    refine qv h38 (fun X hX => ex_pick_f (h38.ev rfl) gc29 (h38.ev rfl)) fun a39 h39 => ?_
    exact sq_nil (h39.mid (m := [(_, _), (_, _), (_, _), (_, _), (_, _)]) rfl)
   case ht =>
    intro gc29
    refine qo h33 rfl rfl rfl gc29 rfl rfl fun a40 h40 => ?_
    refine qo h40 rfl rfl rfl gc29 rfl rfl fun a41 h41 => ?_
    refine qo h41 rfl rfl rfl gc29 rfl rfl fun a42 h42 => ?_
    refine qo h42 rfl rfl rfl gc29 rfl rfl fun a43 h43 => ?_
    refine qo h43 rfl rfl rfl gc29 rfl rfl fun a44 h44 => ?_
    refine qv h44 (fun X hX => ex_pick_t (h44.ev rfl) gc29 (h44.ev rfl)) fun a45 h45 => ?_
    exact sq_nil (h45.mid (m := [(_, _), (_, _), (_, _), (_, _), (_, _)]) rfl)
   case h =>
    intro a46 h46
    refine sq_pure h46 (wn rfl) rfl rfl (fun X => (ex_call (fun _ _ => by kernel_rfl) (h46.evs rfl) rfl)) (fun X hX => logring_unless_any _ _ _) fun a47 h47 => ?_
    refine qv h47 (fun X hX => ex_field (off := 1) (j := 1) (by kernel_rfl) (h47.ev rfl) rfl) fun a48 h48 => ?_
    refine qv h48 (fun X hX => ex_field (off := 0) (j := 1) (by kernel_rfl) (h48.ev rfl) rfl) fun a49 h49 => ?_
    refine qv h49 (fun X hX => ex_load (by kernel_rfl) (h49.ev rfl) ((S10.grow hX).cell (i := 3) rfl rfl)) fun a50 h50 => ?_
    refine qv h50 (fun X hX => ex_lss (h50.ev rfl) (h50.ev rfl)) fun a51 h51 => ?_
    refine sq_pure h51 (wn rfl) rfl rfl (fun X => (ex_call (fun _ _ => by kernel_rfl) (h51.evs rfl) rfl)) (fun X hX => logring_unless_any _ _ _) fun a52 h52 => ?_
    refine sq_nil ?_
    refine nd_end fun X53 hX53 hΦ53 => ?_
    have S53 := S10.grow hX53
    refine sl_new h52 (wn rfl) (f := fun b => .slice (some ⟨b, 0, none⟩) 4 4) (ex_bslice Tryz.underlying140 (by kernel_rfl) (by kernel_rfl) (h52.evs2 rfl) rfl rfl rfl (by decide) (by decide)) rfl rfl S53 fun b42 a54 X54 gb42 h54 S54 => ?_
    refine sl_pure h54 (wn rfl) (ex_call (fun _ _ => by kernel_rfl) (h54.evs rfl) rfl) rfl rfl (logring_first4 (S54.at_ (i := 0) rfl)) fun a55 h55 => ?_
    refine ma h55 rfl rfl fun a56 h56 => ?_
    refine st_nil (go_then (st_seq (st_seq (st_reg ?_))))
    refine mv h56 rfl rfl fun a57 h57 => ?_
    refine sv h57 (ex_neq (h57.ev rfl) (h57.ev rfl)) fun a58 h58 => ?_
    refine st_nil (go_then ?_)
    refine st_if (h58.ev rfl) (fun hc0 => ?_) (fun hc0 => ?_)
    ·
     have hne : ¬ rs2E r cp ol = 0 := by unfold rs2E; simpa using hc0
     refine st_seq (st_reg ?_)
     refine sv h58 (ex_build (zs := [.int .i64 0, .int .i64 0, .int .i64 0, .int .i64 0, .int .i64 0, .int .i64 0, .int .i64 0, .slice none 0 0, .int .i64 0]) (pl := [(0, 1), (1, 3), (4, 3), (7, 1), (8, 1)]) (by kernel_rfl) (by kernel_rfl) (h58.evs2 rfl) rfl rfl) fun a59 h59 => ?_
     refine mv h59 rfl rfl fun a60 h60 => ?_
     refine sl_store0 h60 (wn rfl) ⟨rfl, rfl⟩ (h60.ev rfl) (h60.ev rfl) rfl (by kernel_rfl) S54 (i := 2) rfl rfl rfl fun X61 S61 => ?_
     refine ma h60 rfl rfl fun a62 h62 => ?_
     refine st_nil (go_then (wp_ret (ret_then ?_)))
     refine finct h62 rfl rfl rfl S61 (i := 2) rfl (by kernel_rfl) (by kernel_rfl) ?_
     refine ⟨none, 0, ?_, ?_, S61.below⟩
     · rw [if_neg hne]; rfl
     · rw [if_neg hne]; exact World.ownsRow_nil _ _ _ _
    ·
     have hz : rs2E r cp ol = 0 := by unfold rs2E; simpa using hc0
     have hz' := hz
     unfold rs2E at hz'
     rw [firstE_zero] at hz'
     obtain ⟨hk, hcl, hnx⟩ := cl2_ok (hz' (cl2E r) (.head _))
     have hs := of_decide_eq_true ((unl_zero (by decide)).1 (hz' (unl (decide ((cl2 r).r.s < 60000)) 2) (.tail _ (.tail _ (.tail _ (.head _))))))
     rw [hcl] at h58 S54 hs
     have hs1 : (cloV r).r.s = r.r.s := rfl
     have hfe : (r.rs.filter fun x => !decide (x.l < ol)) = r.rs.filter fun x => decide (ol ≤ x.l) := by
      congr 1; funext x; rw [← decide_not]; exact decide_eq_decide.2 (by omega)
     refine wp_skip (go_then (st_seq (st_reg ?_)))
     refine vf h58 1 1 rfl rfl rfl fun a63 h63 => ?_
     refine sv (v := rstV r.r) h63 (ex_loads (by kernel_rfl) (by kernel_rfl) (h63.ev rfl) (S54.cellsOf (i := 4) rfl 1 3)) fun a64 h64 => ?_
     refine vf h64 4 4 rfl rfl rfl fun a65 h65 => ?_
     refine sl_store h65 (wn rfl) ⟨rfl, rfl⟩ (h65.ev rfl) (h65.ev rfl) rfl (by kernel_rfl) S54 (i := 4) rfl rfl rfl fun X66 S66 => ?_
     refine nsr ?_
     refine vf h65 1 1 rfl rfl rfl fun a67 h67 => ?_
     refine vf h67 0 1 rfl rfl rfl fun a68 h68 => ?_
     refine vl h68 S66 4 rfl rfl rfl rfl fun a69 h69 => ?_
     refine sv h69 (ex_add (h69.ev rfl) (h69.ev rfl) (by have := hk.h.rr.1; show -9223372036854775808 ≤ r.r.s + 1 ∧ r.r.s + 1 < 9223372036854775808; omega)) fun a70 h70 => ?_
     refine mv h70 rfl rfl fun a71 h71 => ?_
     refine vl h71 S66 3 rfl rfl rfl rfl fun a72 h72 => ?_
     refine sv (v := rstV ⟨r.r.s + 1, cp, ol⟩) h72 (ex_build (zs := [.int .i64 0, .int .i64 0, .int .i64 0]) (pl := [(0, 1), (1, 1), (2, 1)]) (by kernel_rfl) (by kernel_rfl) (h72.evs2 rfl) rfl rfl) fun a73 h73 => ?_
     refine vf h73 1 1 rfl rfl rfl fun a74 h74 => ?_
     refine sl_store h74 (wn rfl) ⟨rfl, rfl⟩ (h74.ev rfl) (h74.ev rfl) rfl (by kernel_rfl) S66 (i := 4) rfl rfl rfl fun X75 S75 => ?_
     refine nsr ?_
     refine vf h74 7 7 rfl rfl rfl fun a76 h76 => ?_
     refine vl h76 S75 4 rfl rfl rfl rfl fun a77 h77 => ?_
     refine sv h77 (ex_func (h77.evs rfl) (h77.evs rfl)) fun a78 h78 => ?_
     refine sl_updx h78 (wn rfl) (ex_call (fun _ _ => by kernel_rfl) (h78.evs rfl) rfl) rfl rfl S75 (i := 1) rfl row_dom (deleteRec_any (fun x => decide (x.l < ol)) r.rs A11 c11 0 64 [.pointer (some ⟨b5, 0, none⟩)] _ (S75.at_ (i := 1) rfl) hlen (fun _ _ => by kernel_rfl) (fun X L hX x _ => rs1_any x ol b5 _ X (S75.other (i := 3) (j := 1) rfl rfl (by decide) hX))) fun p62 a79 X79 h79 hF62 S79 => ?_
     rw [hfe] at h79 hF62
     refine vf h79 7 7 rfl rfl rfl fun a80 h80 => ?_
     refine sl_store h80 (wn rfl) ⟨rfl, rfl⟩ (h80.ev rfl) (h80.ev rfl) rfl (by kernel_rfl) S79 (i := 4) rfl rfl rfl fun X81 S81 => ?_
     refine nsr ?_
     refine sv (v := ringV (rsaV r cp ol) A11 c11) h80 (ex_loads (by kernel_rfl) (by kernel_rfl) (h80.ev rfl) (S81.cellsAll (i := 4) rfl)) fun a82 h82 => ?_
     refine sl_store0 h82 (wn rfl) ⟨rfl, rfl⟩ (h82.ev rfl) (h82.ev rfl) rfl (by kernel_rfl) S81 (i := 2) rfl rfl rfl fun X83 S83 => ?_
     refine ma h82 rfl rfl fun a84 h84 => ?_
     refine st_nil (go_then (wp_ret ?_))
     refine finct h84 rfl rfl rfl S83 (i := 2) rfl (by kernel_rfl) (by kernel_rfl) ?_
     refine ⟨A11, c11, ?_, ?_, S83.below⟩
     · rw [if_pos hz, hz]; rfl
     · rw [if_pos hz]
       have q := S83.ownB (i := 1) rfl
       have q2 := own_prefix (k := (r.rs.filter fun x => decide (ol ≤ x.l)).length) q (List.length_filter_le _ _) ?_
       · rw [hF62] at q2; exact q2
       · rcases q.2 with ⟨e0, _⟩ | ⟨g, cap, cur, e1, _⟩
         · left
           injection e0 with a1 a2 a3
           have : r.rs.length = 0 := a2
           have := List.length_filter_le (fun x : RecP => decide (ol ≤ x.l)) r.rs
           show _ = r.rs.length
           omega
         · right
           injection e1 with e1; rw [e1]; simp
 case hB => kernel_rfl
 case hst => rfl
end Go.Proofs.YtmlilplbdpjfcaaGreatDoor
