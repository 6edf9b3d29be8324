/-
  Regions that draw their order, among whose operations one lays a new block whenever it likes ('x := f(..)', x in a block of its own): whatever comes first only reads and calls functions that keep all old memory; what stands behind the new block comes last, in order. One walk serves all orders.
-/
import Derived.Test.YtanicpgmbhfipaaDoorRegion
namespace Go.Proofs.YtanicpgmbhfipaaDoor
open Go.RowKit Go.Sort

section
variable {P : Program} {ops : Array Oper} {md : Region.Mode} {w : World}

/-- what an operation hands back, in every later world, all memory of that world untouched -/
def Grows (P : Program) (w : World) (s : Sem Next) (v : Value) : Prop := ∀ X, Below w.heap.size w X → Oper.quietUpon P (fun X' => Below X.heap.size X X') X v (s.run P X)

def qOpG (P : Program) (ops : Array Oper) (w : World) (i : Nat) (K : Act → Prop) (a : Act) : Prop :=
  match ops[i]? with
  | none => K a
  | some o => if Region.wanted o (yielded ops a.tmps) then ∃ v, Grows P w (execOp a.eval o) v ∧ K (a.put o.dst v) else K (a.put o.dst undef)

theorem qOpG_mono {i : Nat} {a : Act} {K K' : Act → Prop} (h : ∀ a, K a → K' a) (hh : qOpG P ops w i K a) : qOpG P ops w i K' a := by
  unfold qOpG at *
  split
  · exact h _ (by simpa [*] using hh)
  · rename_i o ho
    simp only [ho] at hh
    split
    · rename_i hw; simp only [hw, if_true] at hh; obtain ⟨v, h1, h2⟩ := hh; exact ⟨v, h1, h _ h2⟩
    · rename_i hw; simp only [hw] at hh; exact h _ hh

def YieldsG (P : Program) (ops : Array Oper) (w : World) (o : Oper) (v : Value) (a : Act) : Prop :=
  (Region.wanted o (yielded ops a.tmps) = true ∧ Grows P w (execOp a.eval o) v) ∨ (Region.wanted o (yielded ops a.tmps) = false ∧ v = undef)

theorem YieldsG.qOpG {i : Nat} {o : Oper} {v : Value} {a : Act} (hi : ops[i]? = some o) (hy : YieldsG P ops w o v a) {K : Act → Prop} (h : K (a.put o.dst v)) : qOpG P ops w i K a := by
  unfold Proofs.YtanicpgmbhfipaaDoor.qOpG
  simp only [hi]
  rcases hy with ⟨hw, hv⟩ | ⟨hw, rfl⟩
  · simp only [hw, if_true]; exact ⟨v, hv, h⟩
  · simp only [hw, Bool.false_eq_true, if_false]; exact h

theorem YieldsG.of_same {o : Oper} {v : Value} {a a' : Act} (hy : YieldsG P ops w o v a) (he : execOp a'.eval o = execOp a.eval o)
    (hw : Region.wanted o (yielded ops a'.tmps) = Region.wanted o (yielded ops a.tmps)) : YieldsG P ops w o v a' := by
  unfold YieldsG at *
  rw [he, hw]
  exact hy

theorem yieldsG_of_qOpG {i : Nat} {o : Oper} {a : Act} {K : Act → Prop} (hi : ops[i]? = some o) (h : qOpG P ops w i K a) : ∃ v, YieldsG P ops w o v a ∧ K (a.put o.dst v) := by
  unfold qOpG at h
  simp only [hi] at h
  by_cases hw : Region.wanted o (yielded ops a.tmps) = true
  · simp only [hw, if_true] at h
    obtain ⟨v, h1, h2⟩ := h
    exact ⟨v, .inl ⟨hw, h1⟩, h2⟩
  · simp only [hw] at h
    exact ⟨undef, .inr ⟨by simpa using hw, rfl⟩, h⟩

theorem qOpG_put {j : Nat} {oi oj : Oper} {v : Value} (hj : ops[j]? = some oj) (hap : oi.apart ops oj = true)
    (hsi : ∀ cs b, oi.op ≠ .select cs b) (hsj : ∀ cs b, oj.op ≠ .select cs b) {K : Act → Prop} {a : Act}
    (hy : YieldsG P ops w oi v a) (h : qOpG P ops w j K (a.put oi.dst v)) :
    qOpG P ops w j (fun a' => YieldsG P ops w oi v a' ∧ K (a'.put oi.dst v)) a := by
  obtain ⟨h1, h2, h3⟩ := Oper.apart_spec hap
  have keep : ∀ (a : Act), YieldsG P ops w oi v a → ∀ u, YieldsG P ops w oi v (a.put oj.dst u) := fun a hy u =>
    hy.of_same (execOp_put oi hsi a oj.dst u h3) (wanted_put oi a oj.dst u h3)
  unfold qOpG at *
  simp only [hj] at *
  rw [wanted_put oj a oi.dst v h1] at h
  split
  · rename_i hw
    simp only [hw, if_true] at h
    obtain ⟨u, hu, hn⟩ := h
    refine ⟨u, ?_, keep a hy u, by rw [← Act.put_comm a v u h2]; exact hn⟩
    rwa [execOp_put oj hsj a oi.dst v h1] at hu
  · rename_i hw
    simp only [hw] at h
    exact ⟨keep a hy _, by rw [← Act.put_comm a v undef h2]; exact h⟩

/-- what a slot that is not looked at holds makes no difference -/
theorem qOpG_other {j : Nat} {oj : Oper} {d : Option Tmp} {u : Value} (hj : ops[j]? = some oj) (h1 : ∀ t, d = some t → t ∉ oj.looksAt ops) (h2 : ∀ t, d = some t → oj.dst ≠ some t)
    (hsj : ∀ cs b, oj.op ≠ .select cs b) {K K' : Act → Prop} {a : Act} (hK : ∀ a, K a → K' (a.put d u)) (h : qOpG P ops w j K a) : qOpG P ops w j K' (a.put d u) := by
  unfold qOpG at *
  simp only [hj] at *
  rw [wanted_put oj a d u h1, execOp_put oj hsj a d u h1]
  split
  · rename_i hw
    simp only [hw, if_true] at h
    obtain ⟨v, hv, hn⟩ := h
    exact ⟨v, hv, by rw [Act.put_comm a u v h2]; exact hK _ hn⟩
  · rename_i hw
    simp only [hw] at h
    rw [Act.put_comm a u undef h2]; exact hK _ h

def HeadG (P : Program) (md : Region.Mode) (ops : Array Oper) (w : World) (n : Nat) (L : Array Bool → Act → Prop) : Nat → Array Bool → Act → Prop
  | 0, listed, a => L listed a
  | f + 1, listed, a => Region.ready md ops listed ≠ [] ∧ ∀ i ∈ Region.ready md ops listed, i < n ∧ qOpG P ops w i (HeadG P md ops w n L f (listed.setIfInBounds i true)) a

theorem headG_first {n i : Nat} {oi : Oper} {v : Value} {L : Array Bool → Act → Prop} (hi : ops[i]? = some oi) (hsel : ∀ (j : Nat) (o : Oper) cs b, ops[j]? = some o → o.op ≠ .select cs b)
    (hs : Region.sinkB md ops n = true) (hc : Region.chainB md ops n = true) (hn : n < ops.size) (hin : i < n)
    (hdone : ∀ listed a, L listed a → ∀ j ∈ Region.ready md ops listed, n ≤ j) :
    ∀ (f : Nat) (listed : Array Bool) (a : Act), HeadInv md ops n listed →
      (∀ j oj, ops[j]? = some oj → j ≠ i → listed.getD j true = false → (∀ e ∈ oj.after, Region.binds md e = true → e.on ≠ i) → oi.apart ops oj = true) →
      i ∈ Region.ready md ops listed → YieldsG P ops w oi v a →
      HeadG P md ops w n L f (listed.setIfInBounds i true) (a.put oi.dst v) → HeadG P md ops w n L (f + 1) listed a := by
  intro f
  induction f with
  | zero =>
    intro listed a inv _ hr hy H
    have hun := (mem_ready.1 hr).1
    refine ⟨List.ne_nil_of_mem hr, fun j hj => ?_⟩
    have hjn : j < n := Nat.lt_of_not_le fun h => tail_waits hs hc hn inv _ i rfl hin hun j h hj
    refine ⟨hjn, ?_⟩
    by_cases hji : j = i
    · subst hji; exact hy.qOpG hi H
    · exact absurd (hdone _ _ H j (ready_mono hj hji)) (by omega)
  | succ f ih =>
    intro listed a inv hfree hr hy H
    have hun := (mem_ready.1 hr).1
    refine ⟨List.ne_nil_of_mem hr, fun j hj => ?_⟩
    have hjn : j < n := Nat.lt_of_not_le fun h => tail_waits hs hc hn inv _ i rfl hin hun j h hj
    refine ⟨hjn, ?_⟩
    by_cases hji : j = i
    · subst hji; exact hy.qOpG hi H
    · have h1 := (H.2 j (ready_mono hj hji)).2
      obtain ⟨hjun, oj, hoj, hall⟩ := mem_ready.1 hj
      have hnot : ∀ e ∈ oj.after, Region.binds md e = true → e.on ≠ i := fun e he hb heq => by
        have h2 := hall e he hb
        rw [heq, getD_both hun] at h2
        cases h2
      have h2 := qOpG_put hoj (hfree j oj hoj hji hjun hnot) (fun cs b => hsel i oi cs b hi) (fun cs b => hsel j oj cs b hoj) hy h1
      have hfree' : ∀ k ok, ops[k]? = some ok → k ≠ i → (listed.setIfInBounds j true).getD k true = false →
          (∀ e ∈ ok.after, Region.binds md e = true → e.on ≠ i) → oi.apart ops ok = true := fun k ok hk hki hun' hno => by
        refine hfree k ok hk hki ?_ hno
        by_cases hjk : j = k
        · subst hjk; exact hjun
        · rw [getD_set_ne true hjk] at hun'; exact hun'
      refine qOpG_mono (fun a' h3 => ih (listed.setIfInBounds j true) a' (inv.set hj hjn) hfree' (ready_mono hr (Ne.symm hji)) h3.1 ?_) h2
      rw [Array.setIfInBounds_comm _ _ hji]
      exact h3.2

/-- the walk in the order of the text -/
def wpG (P : Program) (ops : Array Oper) (w : World) (L : Act → Prop) : List Oper → Act → Prop
  | [], a => L a
  | o :: rest, a => if Region.wanted o (yielded ops a.tmps) then ∃ v, Grows P w (execOp a.eval o) v ∧ wpG P ops w L rest (a.put o.dst v) else wpG P ops w L rest (a.put o.dst undef)

def lexHeadA (md : Region.Mode) (ops : Array Oper) (g m : Nat) : Nat → Nat → Array Bool → Bool
  | 0, _, listed => Region.seqB md ops g m listed
  | f + 1, k, listed => (Region.ready md ops listed).contains k && Region.free md ops listed k && lexHeadA md ops g m f (k + 1) (listed.setIfInBounds k true)

theorem headG_lex {n m g : Nat} {Lq : Act → Prop} (hsel : Region.noSelect ops = true) (hs : Region.sinkB md ops m = true) (hc : Region.chainB md ops m = true) (hm : m < ops.size) (hnm : n ≤ m) :
    ∀ (l : List Oper) (k : Nat) (listed : Array Bool) (a : Act), (∀ j, j < l.length → l[j]? = ops[k + j]?) → k + l.length = n → HeadInv md ops m listed →
    lexHeadA md ops g m l.length k listed = true → wpG P ops w Lq l a →
    HeadG P md ops w m (fun listed' a' => Region.seqB md ops g m listed' = true ∧ Lq a') l.length listed a
  | [], k, listed, a, _, hk, _, hB, h => ⟨by simpa [lexHeadA] using hB, h⟩
  | o :: l, k, listed, a, hl, hk, inv, hB, h => by
    have h0 : ops[k]? = some o := by simpa using (hl 0 (by simp)).symm
    simp only [List.length_cons, lexHeadA, Bool.and_eq_true] at hB
    obtain ⟨⟨hr, hf⟩, hB'⟩ := hB
    have hkn : k < m := by simp only [List.length_cons] at hk; omega
    have hr' : k ∈ Region.ready md ops listed := by simpa using hr
    have hst : qOpG P ops w k (wpG P ops w Lq l) a := by unfold qOpG; simp only [h0]; exact h
    obtain ⟨v, hy, hK⟩ := yieldsG_of_qOpG h0 hst
    exact headG_first h0 (Region.noSelect_spec hsel) hs hc hm hkn (fun listed' a' hL => seqB_ready hL.1) l.length listed a inv (Region.free_spec h0 hf) hr' hy
      (headG_lex hsel hs hc hm hnm l (k + 1) _ _ (fun j hj => by have := hl (j + 1) (by simp; omega); simpa [Nat.add_assoc, Nat.add_comm 1 j] using this) (by simp only [List.length_cons] at hk; omega) (inv.set hr' hkn) hB' hK)

theorem wpOp_of_qOpG {i : Nat} {a : Act} {K : Act → Prop} {K' : Act → World → Prop} {Q' : Exit → Act → World → Prop} {X : World} (hX : Below w.heap.size w X) (h : ∀ a X', Below X.heap.size X X' → K a → K' a X') (hh : qOpG P ops w i K a) : wpOp P ops Q' i K' a X := by
  unfold qOpG at hh
  unfold wpOp
  split
  · rename_i ho; simp only [ho] at hh; exact h _ _ (Below.refl _ _) hh
  · rename_i o ho
    simp only [ho] at hh
    split
    · rename_i hw
      simp only [hw, if_true] at hh
      refine .inl ?_
      obtain ⟨v, h1, h2⟩ := hh
      have h3 := h1 X hX
      unfold Oper.wp
      generalize (execOp a.eval o).run P X = r at *
      cases r with
      | ok n w' =>
        cases n <;> simp only [Oper.quietUpon] at h3 <;> simp only [Oper.upon]
        case value u =>
          obtain ⟨e1, e2⟩ := h3
          rw [e1, e2]
          exact h _ _ (Below.refl _ _) h2
        case skip =>
          obtain ⟨e1, e2⟩ := h3
          rw [e1, ← e2]
          exact h _ _ (Below.refl _ _) h2
        case enter f args =>
          obtain ⟨e1, hc⟩ := h3
          rw [e1]
          exact hc.mono fun e w'' ⟨he, hw''⟩ => by subst he; exact h _ _ hw'' h2
      | halt x w' => simp only [Oper.quietUpon] at h3
    · rename_i hw; simp only [hw] at hh; exact h _ _ (Below.refl _ _) hh

section
variable {m g na : Nat} {oa : Oper} {obj : Obj} {L : Array Bool → Act → Prop} {Q : Exit → Act → World → Prop}
/-- behind the new block -/
theorem anyG_behind {b : Nat} {u : Value} (hsel : ∀ (j : Nat) (o : Oper) cs b, ops[j]? = some o → o.op ≠ .select cs b)
    (hap : ∀ (j : Nat) (o : Oper), j < m → j ≠ na → ops[j]? = some o → oa.apart ops o = true)
    (hL : ∀ listed a X, L listed a → Below w.heap.size w X → X.heap[b]? = some obj → wpAny P md ops Q g listed (a.put oa.dst u) X) :
    ∀ (f : Nat) (listed : Array Bool) (a : Act) (X : World), Below w.heap.size w X → X.heap[b]? = some obj → listed.getD na true = true → HeadG P md ops w m L f listed a → wpAny P md ops Q (f + g) listed (a.put oa.dst u) X
  | 0, listed, a, X, hX, hx, _, h => by rw [Nat.zero_add]; exact hL _ _ _ h hX hx
  | f + 1, listed, a, X, hX, hx, hli, h => by
    rw [Nat.succ_add]
    refine ⟨fun h0 => absurd h0 h.1, fun i hi => ?_⟩
    obtain ⟨him, hq⟩ := h.2 i hi
    obtain ⟨hun, oi, hoi, _⟩ := mem_ready.1 hi
    have hblt : b < X.heap.size := (Array.getElem?_eq_some_iff.1 hx).1
    have hne : i ≠ na := fun e => by rw [e, hli] at hun; cases hun
    obtain ⟨h1, h2, _⟩ := Oper.apart_spec (hap i oi him hne hoi)
    refine wpOp_of_qOpG (K := fun a' => ∃ a'', a' = a''.put oa.dst u ∧ HeadG P md ops w m L f (listed.setIfInBounds i true) a'') hX (fun a' X' hX' ⟨a'', e, hk⟩ => ?_)
      (qOpG_other hoi h1 h2 (fun cs b => hsel i oi cs b hoi) (fun a' hk => ⟨a', rfl, hk⟩) hq)
    rw [e]
    exact anyG_behind hsel hap hL f _ a'' X' (hX.trans (hX'.mono hX.size)) ((hX'.block b hblt).trans hx) (by rw [getD_set_ne true hne]; exact hli) hk

theorem anyG_before (hsel : ∀ (j : Nat) (o : Oper) cs b, ops[j]? = some o → o.op ≠ .select cs b)
    (hap : ∀ (j : Nat) (o : Oper), j < m → j ≠ na → ops[j]? = some o → oa.apart ops o = true)
    (hs : Region.sinkB md ops m = true) (hc : Region.chainB md ops m = true) (hm : m < ops.size) (hna : na < m) (hoa : ops[na]? = some oa) (hgd : oa.guard = none) (haf : oa.after.isEmpty = true)
    (hal : ∀ (ev : Operand → Value) (X : World), (execOp ev oa).run P X = .ok (.value (.pointer (some ⟨X.heap.size, 0, none⟩))) (X.alloc obj))
    (hLs : ∀ listed a, L listed a → ∀ j ∈ Region.ready md ops listed, m ≤ j)
    (hL : ∀ b, w.heap.size ≤ b → ∀ listed a X, L listed a → Below w.heap.size w X → X.heap[b]? = some obj → wpAny P md ops Q g listed (a.put oa.dst (.pointer (some ⟨b, 0, none⟩))) X) :
    ∀ (f : Nat) (listed : Array Bool) (a : Act) (X : World), Below w.heap.size w X → HeadInv md ops m listed → listed.getD na true = false → HeadG P md ops w m L f (listed.setIfInBounds na true) a → wpAny P md ops Q (f + g + 1) listed a X := by
  have hmem : ∀ listed : Array Bool, listed.getD na true = false → na ∈ Region.ready md ops listed := fun listed hun => mem_ready.2 ⟨hun, oa, hoa, fun e he => by
    rw [Array.isEmpty_iff.1 haf] at he; exact absurd he (Array.not_mem_empty e)⟩
  have hset : ∀ listed : Array Bool, listed.getD na true = false → (listed.setIfInBounds na true).getD na true = true := fun listed hun => by
    have hlt : na < listed.size := by
      rcases Nat.lt_or_ge na listed.size with h | h
      · exact h
      · simp [Array.getElem?_eq_none h] at hun
    simp [hlt]
  have hit : ∀ (f : Nat) (listed : Array Bool) (a : Act) (X : World), Below w.heap.size w X → listed.getD na true = false → HeadG P md ops w m L f (listed.setIfInBounds na true) a →
      wpOp P ops Q na (wpAny P md ops Q (f + g) (listed.setIfInBounds na true)) a X := fun f listed a X hX hun h => by
    unfold wpOp
    simp only [hoa]
    have hwant : Region.wanted oa (yielded ops a.tmps) = true := by unfold Region.wanted; rw [hgd]
    rw [hwant, if_pos rfl]
    refine .inl ?_
    unfold Oper.wp
    rw [hal]
    show wpAny P md ops Q (f + g) _ (a.put oa.dst _) _
    exact anyG_behind hsel hap (hL X.heap.size hX.size) f _ a _ (hX.alloc hX.size _) (heap_alloc_new X obj) (hset listed hun) h
  intro f
  induction f with
  | zero =>
    intro listed a X hX inv hun h
    refine ⟨fun h0 => absurd h0 (List.ne_nil_of_mem (hmem listed hun)), fun i hi => ?_⟩
    by_cases e : i = na
    · subst e; exact hit 0 listed a X hX hun h
    · have hi' := ready_mono hi e
      exact absurd hi (tail_waits hs hc hm inv _ na rfl hna hun i (hLs _ _ h i hi'))
  | succ f ih =>
    intro listed a X hX inv hun h
    refine ⟨fun h0 => absurd h0 (List.ne_nil_of_mem (hmem listed hun)), fun i hi => ?_⟩
    by_cases e : i = na
    · subst e; exact hit (f + 1) listed a X hX hun h
    · obtain ⟨him, hq⟩ := h.2 i (ready_mono hi e)
      refine wpOp_of_qOpG hX (fun a' X' hX' hk => ?_) hq
      rw [show f + 1 + g = f + g + 1 by omega]
      refine ih (listed.setIfInBounds i true) a' X' (hX.trans (hX'.mono hX.size)) (inv.set hi him) (by rw [getD_set_ne true e]; exact hun) ?_
      rw [Array.setIfInBounds_comm _ _ e]
      exact hk
end

/-- the slots that are written: each once, each in the frame -/
def dstsB : List Oper → Nat → Bool
  | [], _ => true
  | o :: l, k => (match o.dst with | some d => decide (d < k) && !(l.any fun o' => o'.dst == some d) | none => false) && dstsB l k

theorem quiet_slot {C : World → Prop} {afin : Act} {d : Tmp} : ∀ (l : List Oper) (a : Act), (∀ o ∈ l, o.dst ≠ some d) → wpQuiet P ops C (fun a' => a' = afin) l a → a.tmps[d]? = afin.tmps[d]?
  | [], a, _, h => by rw [show a = afin from h]
  | o :: l, a, hd, h => by
    have hput : ∀ v, (a.put o.dst v).tmps[d]? = a.tmps[d]? := fun v => by
      have := hd o (List.mem_cons_self ..)
      unfold Act.put
      split
      · rename_i t ht
        exact Array.getElem?_setIfInBounds_ne (fun e => this (by rw [ht, e]))
      · rfl
    unfold wpQuiet at h
    split at h
    · obtain ⟨v, _, h2⟩ := h
      rw [← hput v]
      exact quiet_slot l _ (fun o ho => hd o (List.mem_cons_of_mem _ ho)) h2
    · rw [← hput undef]
      exact quiet_slot l _ (fun o ho => hd o (List.mem_cons_of_mem _ ho)) h

theorem quietUpon_mono {C C' : World → Prop} {X : World} {v : Value} {r : Result Next} (h : ∀ W, C W → C' W) (hr : Oper.quietUpon P C X v r) : Oper.quietUpon P C' X v r := by
  cases r with
  | ok n w' =>
    cases n <;> simp only [Oper.quietUpon] at hr ⊢
    case value u => exact hr
    case skip => exact hr
    case enter f args => exact ⟨hr.1, hr.2.mono fun e w'' ⟨h1, h2⟩ => ⟨h1, h _ h2⟩⟩
  | halt x w' => exact hr

theorem wpG_of_quiet {afin : Act} : ∀ (l : List Oper) (a : Act), dstsB l a.tmps.size = true →
    (∀ X, Below w.heap.size w X → wpQuiet P ops (fun w' => ∃ p : Regrown, w' = grow (redrawn X p.d) p.os) (fun a' => a' = afin) l a) → wpG P ops w (fun a' => a' = afin) l a
  | [], a, _, h => h w (Below.refl _ _)
  | o :: l, a, hd, h => by
    unfold dstsB at hd
    rw [Bool.and_eq_true] at hd
    obtain ⟨hd1, hd2⟩ := hd
    have hsz : ∀ v, (a.put o.dst v).tmps.size = a.tmps.size := fun v => by unfold Act.put; split <;> simp
    unfold wpG
    split
    · rename_i hw
      have h' : ∀ X, Below w.heap.size w X → ∃ v, (∀ W, (∃ p : Regrown, W = grow (redrawn X p.d) p.os) → o.quietAt P a (fun w' => ∃ p : Regrown, w' = grow (redrawn X p.d) p.os) W v) ∧ wpQuiet P ops (fun w' => ∃ p : Regrown, w' = grow (redrawn X p.d) p.os) (fun a' => a' = afin) l (a.put o.dst v) := fun X hX => by
        have := h X hX
        unfold wpQuiet at this
        rw [if_pos hw] at this
        exact this
      cases hdst : o.dst with
      | none => rw [hdst] at hd1; cases hd1
      | some d =>
        rw [hdst] at hd1 h'
        simp only [Bool.and_eq_true, decide_eq_true_eq, Bool.not_eq_true', List.any_eq_false, beq_iff_eq] at hd1
        have hval : ∀ X, Below w.heap.size w X → ∀ v, wpQuiet P ops (fun w' => ∃ p : Regrown, w' = grow (redrawn X p.d) p.os) (fun a' => a' = afin) l (a.put (some d) v) → some v = afin.tmps[d]? := fun X hX v hv => by
          rw [← quiet_slot l _ (fun o' ho' => hd1.2 o' ho') hv]
          show some v = (a.tmps.setIfInBounds d v)[d]?
          rw [Array.getElem?_setIfInBounds_self_of_lt hd1.1]
        obtain ⟨v0, _, hv0⟩ := h' w (Below.refl _ _)
        have hsame : ∀ X, Below w.heap.size w X → o.quietAt P a (fun w' => ∃ p : Regrown, w' = grow (redrawn X p.d) p.os) X v0 ∧ wpQuiet P ops (fun w' => ∃ p : Regrown, w' = grow (redrawn X p.d) p.os) (fun a' => a' = afin) l (a.put (some d) v0) := fun X hX => by
          obtain ⟨v, g1, g2⟩ := h' X hX
          have e := (hval X hX v g2).trans (hval w (Below.refl _ _) v0 hv0).symm
          injection e with e
          subst e
          exact ⟨g1 X ⟨⟨X.drawn, #[]⟩, by rw [grow_empty]; rfl⟩, g2⟩
        refine ⟨v0, fun X hX => quietUpon_mono (fun W hW => below_of_reg hW) (hsame X hX).1, ?_⟩
        exact wpG_of_quiet l _ (by rw [← hdst, hsz]; exact hd2) fun X hX => (hsame X hX).2
    · rename_i hw
      refine wpG_of_quiet l _ (by rw [hsz]; exact hd2) fun X hX => ?_
      have := h X hX
      unfold wpQuiet at this
      rw [if_neg hw] at this
      exact this

def allocTailB (ops : Array Oper) (n : Nat) : Bool :=
  Region.noSelect ops && decide (n + 1 < ops.size) && Region.sinkB .any ops (n + 1) && Region.chainB .any ops (n + 1) &&
  lexHeadA .any ops (ops.size - (n + 1)) (n + 1) n 0 ((Array.replicate ops.size false).setIfInBounds n true) &&
  (match ops[n]? with
   | some oa => oa.after.isEmpty && oa.guard.isNone && (List.range n).all fun j => match ops[j]? with | some oj => oa.apart ops oj | none => true
   | none => false)

theorem wp_region_atail' {id : Nat} {Q : Exit → Act → World → Prop} {a : Act} {w : World} {l : List Oper} (n : Nat) (oa : Oper) (obj : Obj) (afin : Act) (hm : P.follows .mixedOrders = true) (hB : allocTailB l.toArray n = true)
    (hoa : l[n]? = some oa) (hds : dstsB (l.take n) a.tmps.size = true)
    (hal : ∀ (ev : Operand → Value) (X : World), (execOp ev oa).run P X = .ok (.value (.pointer (some ⟨X.heap.size, 0, none⟩))) (X.alloc obj))
    (hq : ∀ X, Below w.heap.size w X → wpQuiet P l.toArray (fun w' => ∃ p : Regrown, w' = grow (redrawn X p.d) p.os) (fun a' => a' = afin) (l.take n) a)
    (ht : ∀ b W', Below w.heap.size w W' → w.heap.size ≤ b → W'.heap[b]? = some obj → wpList P l.toArray Q (l.drop (n + 1)) (afin.put oa.dst (.pointer (some ⟨b, 0, none⟩))) W') :
    (Code.region id l.toArray true).wp P Q a w := by
  have hoa' : l.toArray[n]? = some oa := by simpa using hoa
  unfold allocTailB at hB
  rw [hoa'] at hB
  simp only [Bool.and_eq_true, decide_eq_true_eq] at hB
  obtain ⟨⟨⟨⟨⟨hsel, hn⟩, hs⟩, hc⟩, hlex⟩, ⟨haf, hgd⟩, hap⟩ := hB
  have hn' : n + 1 < l.length := by simpa using hn
  have htl : (l.take n).length = n := by simp; omega
  have hdl : (l.drop (n + 1)).length = l.toArray.size - (n + 1) := by simp
  have inv0 : HeadInv .any l.toArray (n + 1) (Array.replicate l.toArray.size false) :=
    ⟨by simp, fun j oj _ hl => (by rw [getD_replicate_false] at hl; cases hl), fun t _ ht => getD_in (by simpa using ht) (getD_replicate_false _ _)⟩
  have hun0 : (Array.replicate l.toArray.size false).getD n true = false := getD_in (by rw [Array.size_replicate]; omega) (getD_replicate_false _ _)
  have hmem0 : n ∈ Region.ready .any l.toArray (Array.replicate l.toArray.size false) := mem_ready.2 ⟨hun0, oa, hoa', fun e he => by rw [Array.isEmpty_iff.1 haf] at he; exact absurd he (Array.not_mem_empty e)⟩
  have H := headG_lex (P := P) (w := w) (md := .any) (g := l.toArray.size - (n + 1)) (n := n) (m := n + 1) hsel hs hc hn (Nat.le_succ _) (l.take n) 0 _ a (fun j hj => by
    have hj' : j < n := by rw [htl] at hj; exact hj
    simp [hj']) (by simpa using htl) (inv0.set hmem0 (Nat.lt_succ_self _)) (by rw [htl]; exact hlex) (wpG_of_quiet (l.take n) a hds hq)
  refine wp_region_any hm ?_
  have := anyG_before (P := P) (w := w) (md := .any) (Q := Q) (g := l.toArray.size - (n + 1)) (m := n + 1) (na := n) (oa := oa) (obj := obj) (Region.noSelect_spec hsel)
    (fun j o hj hne ho => by
      have := List.all_eq_true.1 hap j (List.mem_range.2 (by omega))
      rw [ho] at this; exact this)
    hs hc hn (Nat.lt_succ_self _) hoa' (Option.isNone_iff_eq_none.1 hgd) haf hal (fun listed' a' hL => seqB_ready hL.1)
    (fun b hb listed' a' X hL hX hx => by
      have := wpAny_of_seq (md := .any) (Q' := Q) (l.drop (n + 1)) (n + 1) listed' (a'.put oa.dst (.pointer (some ⟨b, 0, none⟩))) X (fun j => by rw [List.getElem?_drop, List.getElem?_toArray]) (by rw [hdl]; exact hL.1) (by rw [hL.2]; exact ht b X hX hb hx)
      rwa [hdl] at this)
    (l.take n).length _ a { w with drawn := w.drawn + 1 } ((Below.refl _ _).drew) inv0 hun0 H
  rw [htl, show n + (l.toArray.size - (n + 1)) + 1 = l.toArray.size by omega] at this
  exact this
theorem wp_region_atail {id : Nat} {Q : Exit → Act → World → Prop} {a : Act} {w : World} {l : List Oper} (n : Nat) (oa : Oper) (obj : Obj) (hm : P.follows .mixedOrders = true) (hB : allocTailB l.toArray n = true)
    (hoa : l[n]? = some oa) (hds : dstsB (l.take n) a.tmps.size = true)
    (hal : ∀ (ev : Operand → Value) (X : World), (execOp ev oa).run P X = .ok (.value (.pointer (some ⟨X.heap.size, 0, none⟩))) (X.alloc obj))
    (h : ∃ afin : Act, (∀ X, Below w.heap.size w X → wpQuiet P l.toArray (fun w' => ∃ p : Regrown, w' = grow (redrawn X p.d) p.os) (fun a' => a' = afin) (l.take n) a) ∧
      (∀ b W', Below w.heap.size w W' → w.heap.size ≤ b → W'.heap[b]? = some obj → wpList P l.toArray Q (l.drop (n + 1)) (afin.put oa.dst (.pointer (some ⟨b, 0, none⟩))) W')) :
    (Code.region id l.toArray true).wp P Q a w :=
  let ⟨afin, hq, ht⟩ := h
  wp_region_atail' n oa obj afin hm hB hoa hds hal hq ht
end
end Go.Proofs.YtanicpgmbhfipaaDoor
