/-
  A drawn region with several appends, each onto what the one before it gave, the first one onto a literal without elements. No program in sight.
  A drawn region in which several new boxes, maybe of one type, are laid and stored over as a whole, by values that no order turns. No program in sight.
  A drawn region with one operation in its midst that all before it come ahead of and all behind it wait for (a call that turns what stands); what stands behind it has no order of its own. No program in sight.
  A drawn region with several stores into blocks that stand. No program in sight.
-/
import Derived.Test.YtanicpgmbhfipaaGreatDoorSplD
namespace Go.Proofs.YtanicpgmbhfipaaGreatDoor
set_option linter.unusedVariables false
set_option linter.unusedSimpArgs false
open Go.RowKit Go.Sort
variable {ds : List Deferred}
section
variable {P : Program} {ops : Array Oper} {Q : Exit → Act → World → Prop} {w : World} {tail : List Oper} {l : List (Nat × Value)} {o : Oper} {a : Act} {N d : Nat} {cs : List (Nat × Nat)}
end
section
variable {P : Program} {ρ : Operand → Value} {X : World}
end
end Go.Proofs.YtanicpgmbhfipaaGreatDoor
namespace Go.Proofs.YtanicpgmbhfipaaGreatDoor
set_option linter.unusedVariables false
set_option linter.unusedSimpArgs false
open Go.RowKit Go.Sort
variable {ds : List Deferred}
structure BxD where
 a : Nat
 s : Nat
 x : Tmp
 y : Tmp
 T : TypeId
 z : Array Value
 v : Value
theorem pw_mem {α : Type} {R : α → α → Prop} (hs : ∀ x y, R x y → R y x) : ∀ {l : List α}, l.Pairwise R → ∀ x ∈ l, ∀ y ∈ l, x = y ∨ R x y
 | [], _, x, hx, _, _ => by cases hx
 | z :: l, h, x, hx, y, hy => by
  rw [List.pairwise_cons] at h
  rcases List.mem_cons.1 hx with rfl | hx'
  · rcases List.mem_cons.1 hy with rfl | hy'
    · exact .inl rfl
    · exact .inr (h.1 y hy')
  · rcases List.mem_cons.1 hy with rfl | hy'
    · exact .inr (hs _ _ (h.1 x hx'))
    · exact pw_mem hs h.2 x hx' y hy'
section
variable {P : Program} {ops : Array Oper} {Q : Exit → Act → World → Prop} {w : World} {tail : List Oper}
def boxB (ops : Array Oper) (fl : List Bool) (n N : Nat) (bs : List BxD) : Bool :=
 Region.noSelect ops && (n == ops.size || (decide (n < ops.size) && Region.sinkB .any ops n && Region.chainB .any ops n)) && Region.seqB .any ops (ops.size - n) n (headTrue ops.size n) &&
 headB ops fl n N && decide (fl.length = n) && ((List.range n).all fun i => !isNd fl i || bs.any fun q => q.a == i || q.s == i) &&
 bs.all (fun q => decide (q.a < n) && decide (q.s < n) && waitsT ops 4 q.s q.a && isNd fl q.a && isNd fl q.s && (match ops[q.a]? with | some o => o.dst == some q.x | none => false) && (match ops[q.s]? with | some o => o.dst.isNone && (match o.op with | .store _ (.tmp x) (.tmp y) => x == q.x && y == q.y | _ => false) | none => false) && (List.range n).all fun j => dstAt ops j != some q.y || !isNd fl j)
structure BoxI (listed : Array Bool) (w : World) (bs : List BxD) (vals : Nat → Value) (X : World) : Prop where
 box : ∀ q ∈ bs, listed.getD q.a false = true → ∃ b, vals q.a = .pointer (some ⟨b, 0, none⟩) ∧ w.heap.size ≤ b ∧ Box X b (if listed.getD q.s false = true then q.v.cells else q.z) q.T
 ne : ∀ q ∈ bs, ∀ r ∈ bs, q.a ≠ r.a → listed.getD q.a false = true → listed.getD r.a false = true → vals q.a ≠ vals r.a
variable {n N : Nat} {fl : List Bool} {bs : List BxD} {a afin : Act}
def stsB (w : World) (bs : List BxD) : List StK := bs.map fun q => (q.s, (fun b _ => w.heap.size ≤ b), fun _ _ => True)
theorem oall_B {X : World} (h : Grw (OallK (stsB w bs)) w X) : Below w.heap.size w X := below_of (h.weaken fun b o ⟨p, hp, hpo⟩ => by
 obtain ⟨q, _, rfl⟩ := List.mem_map.1 hp; exact hpo)
theorem box_any (hB : boxB ops fl n N bs = true) (hN : N = a.tmps.size) (htl : ∀ j, tail[j]? = ops[n + j]?) (htn : tail.length = ops.size - n)
 (hrest : afin.tmps.size = a.tmps.size ∧ afin.defers = a.defers) (hslot : ∀ t, (∀ j, j < n → isNd fl j = false → dstAt ops j ≠ some t) → afin.tmps[t]? = a.tmps[t]?)
 (hdet : ∀ j o, j < n → isNd fl j = false → ops[j]? = some o → DetF P ops (Grw (OallK (stsB w bs)) w) (fun t => if (∃ j, j < n ∧ isNd fl j = false ∧ dstAt ops j = some t) then afin.tmps[t]? else a.tmps[t]?) afin o)
 (hu : bs.Pairwise fun q r => q.a ≠ r.a ∧ q.s ≠ r.s)
 (hA : ∀ q ∈ bs, ∀ o, ops[q.a]? = some o → ∀ ρ X, (execOp ρ o).run P X = .ok (.value (.pointer (some ⟨X.heap.size, 0, none⟩))) (X.alloc (.cells q.z q.T)))
 (hS : ∀ q ∈ bs, ∀ o ty x' y', ops[q.s]? = some o → o.op = .store ty x' y' → (P.info? ty).map (·.size) = some q.v.cells.size) (hz : ∀ q ∈ bs, q.v.cells.size = q.z.size ∧ q.v.cells.toList.all (·.oneCell') = true)
 (hy : ∀ q ∈ bs, afin.tmps[q.y]? = some q.v)
 (hend : ∀ (b : Act) X (bl : Nat → Nat), b.tmps.size = afin.tmps.size → b.defers = afin.defers → (∀ t, (∀ q ∈ bs, q.x ≠ t) → b.tmps[t]? = afin.tmps[t]?) → (∀ q ∈ bs, b.tmps[q.x]? = some (.pointer (some ⟨bl q.a, 0, none⟩)) ∧ w.heap.size ≤ bl q.a ∧ Box X (bl q.a) q.v.cells q.T) →
  (∀ q ∈ bs, ∀ r ∈ bs, q.a ≠ r.a → bl q.a ≠ bl r.a) → Below w.heap.size w X → wpList P ops Q tail b X) :
 ∀ (f : Nat) (listed : Array Bool) (b : Act) (X : World) (vals : Nat → Value), ((List.range n).filter fun j => !listed.getD j true).length = f → FlowInvK ops (stsB w bs) w fl n [] a afin listed b X vals → BoxI listed w bs vals X → wpAny P .any ops Q (f + (ops.size - n)) listed b X := by
 unfold boxB at hB
 rw [Bool.and_eq_true, Bool.and_eq_true, Bool.and_eq_true, Bool.and_eq_true, Bool.and_eq_true, Bool.and_eq_true, decide_eq_true_eq] at hB
 obtain ⟨⟨⟨⟨⟨⟨hsel, hnsc⟩, hseq⟩, hh⟩, hfl⟩, hks⟩, hbs⟩ := hB
 have hnn := flowBK_n hnsc
 have hq : ∀ q ∈ bs, q.a < n ∧ q.s < n ∧ waitsT ops 4 q.s q.a = true ∧ isNd fl q.a = true ∧ isNd fl q.s = true ∧ dstAt ops q.a = some q.x ∧ (∃ o ty, ops[q.s]? = some o ∧ o.dst = none ∧ o.op = .store ty (.tmp q.x) (.tmp q.y)) ∧ ∀ j, j < n → dstAt ops j = some q.y → isNd fl j = false := fun q hq => by
  have h := List.all_eq_true.1 hbs q hq
  rw [Bool.and_eq_true, Bool.and_eq_true, Bool.and_eq_true, Bool.and_eq_true, Bool.and_eq_true, Bool.and_eq_true, Bool.and_eq_true, decide_eq_true_eq, decide_eq_true_eq] at h
  obtain ⟨⟨⟨⟨⟨⟨⟨h1, h2⟩, h3⟩, h4⟩, h5⟩, h6⟩, h7⟩, h8⟩ := h
  refine ⟨h1, h2, h3, h4, h5, ?_, ?_, fun j hj hjt => ?_⟩
  · cases ho : ops[q.a]? with
    | none => rw [ho] at h6; cases h6
    | some o => rw [ho] at h6; unfold dstAt; rw [ho]; simpa using h6
  · cases ho : ops[q.s]? with
    | none => rw [ho] at h7; cases h7
    | some o =>
     rw [ho] at h7
     simp only [Bool.and_eq_true] at h7
     obtain ⟨k1, k2⟩ := h7
     cases hop : o.op <;> rw [hop] at k2 <;> try (cases k2)
     rename_i ty x y
     cases x <;> cases y <;> simp at k2
     obtain ⟨rfl, rfl⟩ := k2
     exact ⟨o, ty, rfl, by simpa using k1, hop⟩
  · have := List.all_eq_true.1 h8 j (List.mem_range.2 hj)
    simpa [hjt] using this
 have hmem2 := fun q hq r hr => pw_mem (R := fun q r : BxD => q.a ≠ r.a ∧ q.s ≠ r.s) (fun x y h => ⟨Ne.symm h.1, Ne.symm h.2⟩) hu q hq r hr
 have has : ∀ q ∈ bs, ∀ r ∈ bs, q.a ≠ r.s := fun q hq1 r hr e => by
  obtain ⟨_, _, _, _, _, h6, _⟩ := hq q hq1
  obtain ⟨_, _, _, _, _, _, ⟨o, ty, ho, hd, _⟩, _⟩ := hq r hr
  rw [e] at h6
  unfold dstAt at h6
  rw [ho] at h6
  simp [hd] at h6
 have hchk : ∀ i, i < n → ∃ o, ops[i]? = some o ∧ (∀ d, o.dst = some d → d < a.tmps.size ∧ (∀ j, j < n → j ≠ i → dstAt ops j ≠ some d)) ∧ (∀ e ∈ o.after, Region.binds .any e = true → e.on < i) ∧
  (∀ t ∈ o.looksAt ops, ∀ j, j < n → dstAt ops j = some t → j < i ∧ Region.waitsFor .any ops i j = true ∧ (isNd fl i = false → isNd fl j = false)) ∧ (isNd fl i = true → o.guard = none) := fun i hi => by
  have h1 := List.all_eq_true.1 hh i (List.mem_range.2 hi)
  cases ho : ops[i]? with
  | none => rw [ho] at h1; cases h1
  | some o =>
   rw [ho] at h1
   simp only [Bool.and_eq_true] at h1
   obtain ⟨⟨⟨c1, c2⟩, c3⟩, c4⟩ := h1
   · refine ⟨o, rfl, fun d hd => ?_, fun e he hb => ?_, fun t ht j hj hjt => ?_, fun hnd => ?_⟩
     · rw [hd] at c1
       simp only [Bool.and_eq_true, decide_eq_true_eq] at c1
       refine ⟨by rw [← hN]; exact c1.1, fun j hj hne e => ?_⟩
       have := List.all_eq_true.1 c1.2 j (List.mem_range.2 hj)
       simp [hne, e] at this
     · have := Array.all_eq_true_iff_forall_mem.1 c2 e he
       simpa [hb] using this
     · have := List.all_eq_true.1 (List.all_eq_true.1 c3 t ht) j (List.mem_range.2 hj)
       simp only [hjt, bne_self_eq_false, Bool.false_or, Bool.and_eq_true, decide_eq_true_eq, Bool.or_eq_true, Bool.not_eq_true'] at this
       exact ⟨this.1.1, this.1.2, fun hni => this.2.resolve_left (by rw [hni]; decide)⟩
     · rw [hnd] at c4
       simpa using c4
 have hdu : ∀ i j d, i < n → j < n → dstAt ops i = some d → dstAt ops j = some d → i = j := fun i j d hi hj h1 h2 => by
  obtain ⟨o, ho, hd, _⟩ := hchk i hi
  have : o.dst = some d := by
   have : dstAt ops i = o.dst := by unfold dstAt; rw [ho]; rfl
   rw [← this]; exact h1
  rcases Nat.decEq j i with hne | he
  · exact absurd h2 ((hd d this).2 j hj hne)
  · exact he.symm
 intro f
 induction f with
 | zero =>
  intro listed b X vals hcnt inv hI
  have hall : ∀ i, i < n → listed.getD i true = true := fun i hi => by
   cases hl : listed.getD i true with
   | true => rfl
   | false =>
    have : i ∈ (List.range n).filter fun j => !listed.getD j true := List.mem_filter.2 ⟨List.mem_range.2 hi, by rw [hl]; rfl⟩
    rw [List.length_eq_zero_iff.1 hcnt] at this
    cases this
  have hall' : ∀ i, i < n → listed.getD i false = true := fun i hi => getD_true_of (by
   rw [inv.head.size]
   rcases hnn with h | ⟨h, _⟩ <;> omega) (by rw [hall i hi]; decide)
  have hli : listed = headTrue ops.size n := by
   apply Array.ext
   · rw [inv.head.size]; simp [headTrue]
   · intro i h1 h2
     have e2 : (headTrue ops.size n)[i] = decide (i < n) := by simp [headTrue]
     rw [e2]
     by_cases hi : i < n
     · have := hall i hi
       simp [h1] at this
       rw [this]; simp [hi]
     · have := inv.head.tail i (by omega) (by rw [← inv.head.size]; exact h1)
       simp [h1] at this
       rw [this]; simp [hi]
  rw [hli, Nat.zero_add, ← htn]
  refine wpAny_of_seq tail n _ _ X htl (by rw [htn]; exact hseq) ?_
  have hbl : ∀ k, ∃ b : Nat, ∀ q ∈ bs, q.a = k → vals q.a = .pointer (some ⟨b, 0, none⟩) ∧ w.heap.size ≤ b ∧ Box X b q.v.cells q.T := fun k => by
   by_cases hk : ∃ q ∈ bs, q.a = k
   · obtain ⟨q, hq1, rfl⟩ := hk
     obtain ⟨h1, h2, _⟩ := hq q hq1
     obtain ⟨b, e1, e2, e3⟩ := hI.box q hq1 (hall' _ h1)
     rw [if_pos (hall' _ h2)] at e3
     refine ⟨b, fun r hr hra => ?_⟩
     rcases hmem2 r hr q hq1 with rfl | h
     · exact ⟨e1, e2, e3⟩
     · exact absurd hra h.1
   · exact ⟨0, fun q hq1 e => absurd ⟨q, hq1, e⟩ hk⟩
  obtain ⟨bl, hbl⟩ : ∃ bl : Nat → Nat, ∀ k, ∀ q ∈ bs, q.a = k → vals q.a = .pointer (some ⟨bl k, 0, none⟩) ∧ w.heap.size ≤ bl k ∧ Box X (bl k) q.v.cells q.T := ⟨fun k => (hbl k).choose, fun k => (hbl k).choose_spec⟩
  refine hend b X bl (by rw [inv.size, hrest.1]) (by rw [inv.defers, hrest.2]) (fun t ht => ?_) (fun q hq1 => ?_) (fun q hq1 r hr hne e => ?_) (oall_B inv.below)
  · by_cases hex : ∃ j, j < n ∧ dstAt ops j = some t
    · obtain ⟨j, hj, hjt⟩ := hex
      rw [inv.done j t hj hjt (hall' j hj)]
      cases hnd : isNd fl j with
      | false => rfl
      | true =>
       exfalso
       have := List.all_eq_true.1 hks j (List.mem_range.2 hj)
       rw [hnd, Bool.not_true, Bool.false_or, List.any_eq_true] at this
       obtain ⟨q, hq1, h⟩ := this
       obtain ⟨_, _, _, _, _, h6, ⟨o, ty, ho, hd, _⟩, _⟩ := hq q hq1
       rcases Bool.or_eq_true_iff.1 h with h | h
       · have : q.a = j := by simpa using h
         rw [this, hjt] at h6
         injection h6 with h6
         exact ht q hq1 h6.symm
       · have : q.s = j := by simpa using h
         rw [this] at ho
         unfold dstAt at hjt
         rw [ho] at hjt
         simp [hd] at hjt
    · rw [inv.rest t (fun j hj hjt => absurd ⟨j, hj, hjt⟩ hex), hslot t (fun j hj _ hjt => hex ⟨j, hj, hjt⟩)]
  · obtain ⟨h1, h2, _, h4, _, h6, _⟩ := hq q hq1
    obtain ⟨e1, e2, e3⟩ := hbl q.a q hq1 rfl
    refine ⟨?_, e2, e3⟩
    rw [inv.done q.a q.x h1 h6 (hall' _ h1), h4, if_pos rfl, e1]
  · have e1 := (hbl q.a q hq1 rfl).1
    have e2 := (hbl r.a r hr rfl).1
    refine hI.ne q hq1 r hr hne (hall' _ (hq q hq1).1) (hall' _ (hq r hr).1) ?_
    rw [e1, e2, e]
 | succ f ih =>
  intro listed b X vals hcnt inv hI
  have hex : ∃ i, i < n ∧ listed.getD i true = false := by
   cases hl : (List.range n).filter fun j => !listed.getD j true with
   | nil => rw [hl] at hcnt; simp at hcnt
   | cons i _ =>
    have : i ∈ (List.range n).filter fun j => !listed.getD j true := by rw [hl]; simp
    obtain ⟨h1, h2⟩ := List.mem_filter.1 this
    exact ⟨i, List.mem_range.1 h1, by simpa using h2⟩
  have hready : ∃ i, i ∈ Region.ready .any ops listed := by
   obtain ⟨i, hin, hun⟩ := hex
   have aux : ∀ m, m < n → listed.getD m true = false → ∃ i, i ∈ Region.ready .any ops listed := by
    intro m
    induction m using Nat.strongRecOn with
    | _ m ihm =>
     intro hm hun
     obtain ⟨o, ho, _, haf, _⟩ := hchk m hm
     by_cases hall : ∀ e ∈ o.after, Region.binds .any e = true → listed.getD e.on false = true
     · exact ⟨m, mem_ready.2 ⟨hun, o, ho, hall⟩⟩
     · obtain ⟨e, he⟩ := Classical.not_forall.1 hall
       obtain ⟨he1, he2⟩ := Classical.not_imp.1 he
       obtain ⟨hb, he3⟩ := Classical.not_imp.1 he2
       have hlt := haf e he1 hb
       refine ihm e.on hlt (by omega) (getD_in (by
        rw [inv.head.size]
        rcases hnn with h | ⟨h, _⟩ <;> omega) (by simpa using he3))
   exact aux i hin hun
  obtain ⟨i0, hi0n, hi0u⟩ := hex
  rw [Nat.succ_add]
  refine ⟨fun h0 => (by obtain ⟨i, hi⟩ := hready; rw [h0] at hi; cases hi), fun i hi => ?_⟩
  have hin : i < n := by
   rcases hnn with hnn | ⟨hn, hs, hc⟩
   · obtain ⟨_, oi, hoi, _⟩ := mem_ready.1 hi
     rw [hnn]; exact (Array.getElem?_eq_some_iff.1 hoi).1
   · exact Nat.lt_of_not_le fun h => tail_waits hs hc hn inv.head _ i0 rfl hi0n hi0u i h hi
  obtain ⟨o, ho, hdst, haf, hlook, hgd⟩ := hchk i hin
  obtain ⟨hun, o', ho', hallr⟩ := mem_ready.1 hi
  obtain rfl : o' = o := Option.some.inj (ho'.symm.trans ho)
  have hcnt' : ((List.range n).filter fun j => !(listed.setIfInBounds i true).getD j true).length = f := by
   have := count_set n i listed hun n
   rw [if_pos hin, hcnt] at this
   omega
  have his : i < listed.size := by rw [inv.head.size]; exact (Array.getElem?_eq_some_iff.1 ho).1
  have hwaits : ∀ j, Region.waitsFor .any ops i j = true → listed.getD j false = true := fun j hj => by
   obtain ⟨o2, ho2, e, he, hb, hon⟩ := Region.waitsFor_spec hj
   obtain rfl : o2 = o' := Option.some.inj (ho2.symm.trans ho)
   rw [← hon]; exact hallr e he hb
  have hnone : ∀ {φ : List NdB → NdB → List NdB → Prop}, ∀ pre e suf, ([] : List NdB) = pre ++ e :: suf → φ pre e suf := fun pre e suf h => by simp at h
  have hgone : listed.getD i false = false := getD_both hun
  unfold wpOp
  simp only [ho]
  cases hndi : isNd fl i with
  | false =>
   obtain ⟨g, d, v, hg, hd, hfin, hy'⟩ := hdet i o' hin hndi ho
   have hsame : ∀ t ∈ o'.looksAt ops, b.tmps[t]? = g.tmps[t]? := fun t ht => by
    rw [hg t ht]
    by_cases hex : ∃ j, j < n ∧ dstAt ops j = some t
    · obtain ⟨j, hj, hjt⟩ := hex
      obtain ⟨_, hw, hnj⟩ := hlook t ht j hj hjt
      have hnj' := hnj hndi
      show _ = if _ then _ else _
      rw [if_pos ⟨j, hj, hnj', hjt⟩, inv.done j t hj hjt (hwaits j hw), hnj']
      rfl
    · show _ = if _ then _ else _
      rw [if_neg (fun ⟨j, hj, _, hjt⟩ => hex ⟨j, hj, hjt⟩)]
      exact inv.rest t (fun j hj hjt => absurd ⟨j, hj, hjt⟩ hex)
   have hy2 : YieldsC P ops (Grw (OallK (stsB w bs)) w) o' v b := hy'.of_same (exec_same (Region.noSelect_spec hsel i o' · · ho) hsame) (wanted_same hsame)
   have hia : ∀ q ∈ bs, i ≠ q.a ∧ i ≠ q.s := fun q hq1 => ⟨fun e => (by rw [e, (hq q hq1).2.2.2.1] at hndi; cases hndi), fun e => (by rw [e, (hq q hq1).2.2.2.2.1] at hndi; cases hndi)⟩
   have hgo : ∀ X', Below X.heap.size X X' → wpAny P .any ops Q (f + (ops.size - n)) (listed.setIfInBounds i true) (b.put o'.dst v) X' := fun X' hX' => by
    refine ih _ _ _ _ hcnt' (inv.step hi hin ho hdst (.inl hX') hnone hnone (fun d2 hd2 _ => by rw [hd] at hd2; rw [← Option.some.inj hd2]; exact hfin) hnone hnone (fun h => by rw [hndi] at h; cases h)) ⟨fun q hq1 hl => ?_, fun q hq1 r hr hne hl1 hl2 => ?_⟩
    · rw [getD_set_ne false (hia q hq1).1] at hl
      obtain ⟨bk, e1, e2, e3⟩ := hI.box q hq1 hl
      rw [if_neg (fun e => (hia q hq1).1 e.symm), getD_set_ne false (hia q hq1).2]
      exact ⟨bk, e1, e2, e3.below hX'⟩
    · rw [getD_set_ne false (hia q hq1).1] at hl1
      rw [getD_set_ne false (hia r hr).1] at hl2
      rw [if_neg (fun e => (hia q hq1).1 e.symm), if_neg (fun e => (hia r hr).1 e.symm)]
      exact hI.ne q hq1 r hr hne hl1 hl2
   rcases hy2 with ⟨hw, hv⟩ | ⟨hw, rfl⟩
   · rw [if_pos hw]
     refine .inl ?_
     unfold Oper.wp
     have h3 := hv X inv.below
     generalize (execOp b.eval o').run P X = r at *
     cases r with
     | ok nx w' =>
      cases nx <;> simp only [Oper.quietUpon] at h3 <;> simp only [Oper.upon]
      case value u =>
       obtain ⟨e1, e2⟩ := h3
       rw [e1, e2]
       exact hgo _ (Below.refl _ _)
      case skip =>
       obtain ⟨e1, e2⟩ := h3
       rw [e1, ← e2]
       exact hgo _ (Below.refl _ _)
      case enter f args =>
       obtain ⟨e1, hcl⟩ := h3
       rw [e1]
       exact hcl.mono fun e w'' ⟨he, hw''⟩ => by subst he; exact hgo _ hw''
     | halt x w' => simp only [Oper.quietUpon] at h3
   · rw [hw, if_neg (by decide)]
     exact hgo X (Below.refl _ _)
  | true =>
   have hwant : Region.wanted o' (yielded ops b.tmps) = true := by unfold Region.wanted; rw [hgd hndi]
   rw [if_pos hwant]
   refine .inl ?_
   unfold Oper.wp
   have hm := List.all_eq_true.1 hks i (List.mem_range.2 hin)
   rw [hndi, Bool.not_true, Bool.false_or, List.any_eq_true] at hm
   obtain ⟨q, hq1, h⟩ := hm
   obtain ⟨qa, qs, qw, qn1, qn2, qx, ⟨os, ty, hos, hds, hop⟩, qy⟩ := hq q hq1
   rcases Bool.or_eq_true_iff.1 h with h | h
   · -- the box is laid
     obtain rfl : q.a = i := by simpa using h
     have hex := hA q hq1 o' ho b.eval X
     rw [hex]
     simp only [Oper.upon]
     have hX' : Below X.heap.size X (X.alloc (.cells q.z q.T)) := bel_alloc (Below.refl _ _) _
     have hsn : listed.getD q.s false = false := by
      cases hl : listed.getD q.s false with
      | false => rfl
      | true =>
       exfalso
       have := waitsT_listed inv.head 4 q.s q.a os hos (fun e2 he2 hb2 => inv.head.closed q.s os hos hl e2 he2 hb2) qw
       rw [hgone] at this; cases this
     refine ih _ _ _ _ hcnt' (inv.step hi hin ho hdst (.inl hX') hnone hnone (fun _ _ h => by rw [hndi] at h; cases h) hnone hnone (fun _ _ => ⟨rfl, by rw [World.size_alloc]; exact Nat.lt_succ_self _⟩)) ⟨fun r hr hl => ?_, fun r hr t ht hne hl1 hl2 => ?_⟩
     · rw [getD_set_ne false (has q hq1 r hr)]
       rcases hmem2 r hr q hq1 with rfl | hrq
       · rw [if_pos rfl, hsn, if_neg (by decide)]
         exact ⟨_, rfl, inv.below.size, Box.new X _ _⟩
       · rw [getD_set_ne false (Ne.symm hrq.1)] at hl
         obtain ⟨bk, e1, e2, e3⟩ := hI.box r hr hl
         rw [if_neg hrq.1]
         exact ⟨bk, e1, e2, e3.below hX'⟩
     · have hfr : ∀ r ∈ bs, r.a ≠ q.a → (listed.setIfInBounds q.a true).getD r.a false = true → vals r.a ≠ .pointer (some ⟨X.heap.size, 0, none⟩) := fun r hr hrq hl e => by
        rw [getD_set_ne false (Ne.symm hrq)] at hl
        obtain ⟨bk, e1, e2, e3⟩ := hI.box r hr hl
        rw [e1] at e
        injection e with e
        injection e with e
        injection e with e
        have := e3.lt
        omega
       by_cases hrq : r.a = q.a
       · rw [if_pos hrq, if_neg (fun e => hne (hrq.trans e.symm))]
         exact fun e => hfr t ht (fun e => hne (hrq.trans e.symm)) hl2 e.symm
       · rw [if_neg hrq]
         by_cases htq : t.a = q.a
         · rw [if_pos htq]; exact hfr r hr hrq hl1
         · rw [if_neg htq]
           rw [getD_set_ne false (Ne.symm hrq)] at hl1
           rw [getD_set_ne false (Ne.symm htq)] at hl2
           exact hI.ne r hr t ht hne hl1 hl2
   · -- the box is stored over
     obtain rfl : q.s = i := by simpa using h
     obtain rfl : os = o' := Option.some.inj (hos.symm.trans ho)
     have hla : listed.getD q.a false = true := waitsT_listed inv.head 4 q.s q.a os hos hallr qw
     obtain ⟨bk, e1, e2, e3⟩ := hI.box q hq1 hla
     rw [hgone, if_neg (by decide)] at e3
     have hbx : b.eval (.tmp q.x) = .pointer (some ⟨bk, 0, none⟩) := by
      have h5 := inv.done q.a q.x qa qx hla
      rw [qn1, if_pos rfl, e1] at h5
      show b.tmps.getD q.x undef = _
      rw [Array.getD_eq_getD_getElem?, h5]; rfl
     have hby : b.eval (.tmp q.y) = q.v := by
      have h5 : b.tmps[q.y]? = some q.v := by
       by_cases hex : ∃ j, j < n ∧ dstAt ops j = some q.y
       · obtain ⟨j, hj, hjt⟩ := hex
         have hlk : q.y ∈ os.looksAt ops := by unfold Oper.looksAt; rw [hop]; exact List.mem_append_left _ (by simp [Op.operands])
         obtain ⟨_, hw, _⟩ := hlook q.y hlk j hj hjt
         rw [inv.done j q.y hj hjt (hwaits j hw), qy j hj hjt, if_neg (by decide)]
         exact hy q hq1
       · rw [inv.rest q.y (fun j hj hjt => absurd ⟨j, hj, hjt⟩ hex), ← hslot q.y (fun j hj _ hjt => hex ⟨j, hj, hjt⟩)]
         exact hy q hq1
      show b.tmps.getD q.y undef = _
      rw [Array.getD_eq_getD_getElem?, h5]; rfl
     have hl := lv_store0 (P := P) (ρ := b.eval) (o := os) (ty := ty) (X := X) hop hbx hby rfl (by rw [hS q hq1 os ty _ _ hos hop]; simp) e3 (hz q hq1).2 (by simp [(hz q hq1).1])
     have hgo : ∀ u X', Kp (fun k => k = bk) 0 X X' → IsBox bk q.T q.v.cells.toList.toArray u X' → ∀ u2, wpAny P .any ops Q (f + (ops.size - n)) (listed.setIfInBounds q.s true) (b.put os.dst u2) X' := fun u X' hK hb u2 => by
      have hE : EffK (stsB w bs) q.s X X' := .inr ⟨_, List.mem_map.2 ⟨q, hq1, rfl⟩, rfl, hK.1.weaken (fun k o e => by rw [show k = bk from e]; exact e2), trivial⟩
      have hb' : Box X' bk q.v.cells q.T := by simpa [IsBox] using hb
      refine ih _ _ _ _ hcnt' (inv.step (v := u2) hi hin ho hdst hE hnone hnone (fun _ _ h => by rw [hndi] at h; cases h) hnone hnone (fun _ h => by unfold isAl at h; rw [hop] at h; cases h)) ⟨fun r hr hl => ?_, fun r hr t ht hne hl1 hl2 => ?_⟩
      · rw [getD_set_ne false (Ne.symm (has r hr q hq1))] at hl
        rw [if_neg (has r hr q hq1)]
        rcases hmem2 r hr q hq1 with rfl | hrq
        · rw [getD_set_self his, if_pos rfl]
          exact ⟨bk, e1, e2, hb'⟩
        · obtain ⟨bj, k1, k2, k3⟩ := hI.box r hr hl
          rw [getD_set_ne false (Ne.symm hrq.2)]
          refine ⟨bj, k1, k2, (hK.1.block bj k3.lt fun e => ?_).trans k3⟩
          have e' : bj = bk := e
          exact hI.ne r hr q hq1 hrq.1 hl hla (by rw [k1, e1, e'])
      · rw [getD_set_ne false (Ne.symm (has r hr q hq1))] at hl1
        rw [getD_set_ne false (Ne.symm (has t ht q hq1))] at hl2
        rw [if_neg (has r hr q hq1), if_neg (has t ht q hq1)]
        exact hI.ne r hr t ht hne hl1 hl2
     generalize (execOp b.eval os).run P X = r at *
     cases r with
     | halt e X' => simp only [LeavesA] at hl
     | ok nx X' =>
      cases nx <;> simp only [LeavesA] at hl <;> simp only [Oper.upon]
      case value u => exact hgo _ _ hl.1 hl.2 _
      case skip => exact hgo _ _ hl.1 hl.2 _
      case enter f args =>
       obtain ⟨e1, hcl⟩ := hl
       rw [e1]
       exact hcl.mono fun e w'' ⟨v, he, hw'', hR⟩ => by subst he; exact hgo _ _ hw'' hR _
def wpB2 (P : Program) (ops : Array Oper) (Q : Exit → Act → World → Prop) (w : World) (tail : List Oper) (a1 s1 : Nat) (x1 y1 : Tmp) (T1 : TypeId) (z1 : Array Value) (a2 s2 : Nat) (x2 y2 : Tmp) (T2 : TypeId) (z2 : Array Value) (g : Act) : Prop :=
 ∃ v1 v2, g.tmps[y1]? = some v1 ∧ g.tmps[y2]? = some v2 ∧
  (∀ o, ops[a1]? = some o → ∀ ρ X, (execOp ρ o).run P X = .ok (.value (.pointer (some ⟨X.heap.size, 0, none⟩))) (X.alloc (.cells z1 T1))) ∧
  (∀ o, ops[a2]? = some o → ∀ ρ X, (execOp ρ o).run P X = .ok (.value (.pointer (some ⟨X.heap.size, 0, none⟩))) (X.alloc (.cells z2 T2))) ∧
  (∀ o ty x' y', ops[s1]? = some o → o.op = .store ty x' y' → (P.info? ty).map (·.size) = some v1.cells.size) ∧ (∀ o ty x' y', ops[s2]? = some o → o.op = .store ty x' y' → (P.info? ty).map (·.size) = some v2.cells.size) ∧
  (v1.cells.size = z1.size ∧ v1.cells.toList.all (·.oneCell') = true) ∧ (v2.cells.size = z2.size ∧ v2.cells.toList.all (·.oneCell') = true) ∧
  ∀ (b : Act) X (b1 b2 : Nat), b.tmps.size = g.tmps.size → b.defers = g.defers → (∀ t, x1 ≠ t → x2 ≠ t → b.tmps[t]? = g.tmps[t]?) → b.tmps[x1]? = some (.pointer (some ⟨b1, 0, none⟩)) → b.tmps[x2]? = some (.pointer (some ⟨b2, 0, none⟩)) → w.heap.size ≤ b1 → w.heap.size ≤ b2 → b1 ≠ b2 →
   Box X b1 v1.cells T1 → Box X b2 v2.cells T2 → Below w.heap.size w X → wpList P ops Q tail b X
theorem dr_box2 {id N : Nat} {a : Act} {w : World} {l : List Oper} {sl : List (Nat × Value)} (ha : Has ds a N sl) (a1 s1 : Nat) (x1 y1 : Tmp) (T1 : TypeId) (z1 : Array Value) (a2 s2 : Nat) (x2 y2 : Tmp) (T2 : TypeId) (z2 : Array Value) (fl : List Bool) (hm : P.follows .mixedOrders = true)
 (h : wpC P l.toArray (Below w.heap.size w) (fun g => wpB2 P l.toArray Q w (l.drop fl.length) a1 s1 x1 y1 T1 z1 a2 s2 x2 y2 T2 z2 g) (pick fl l) a)
 (hB : boxB l.toArray fl fl.length N [⟨a1, s1, x1, y1, T1, #[], undef⟩, ⟨a2, s2, x2, y2, T2, #[], undef⟩] = true) (hne : (!(a1 == a2) && !(s1 == s2)) = true) : (Code.region id l.toArray true).wp P Q a w := by
 obtain ⟨afin, h1, h2⟩ := wpC_take _ _ h
 obtain ⟨v1, v2, hy1, hy2, hA1, hA2, hS1, hS2, hz1, hz2, hk⟩ := h2
 obtain ⟨ne1, ne2⟩ := Bool.and_eq_true_iff.1 hne
 have ne1' : a1 ≠ a2 := by simpa using ne1
 have ne2' : s1 ≠ s2 := by simpa using ne2
 have hB2 : boxB l.toArray fl fl.length N [⟨a1, s1, x1, y1, T1, z1, v1⟩, ⟨a2, s2, x2, y2, T2, z2, v2⟩] = true := hB
 have hB' := hB2
 unfold boxB at hB'
 rw [Bool.and_eq_true, Bool.and_eq_true, Bool.and_eq_true, Bool.and_eq_true, Bool.and_eq_true, Bool.and_eq_true, decide_eq_true_eq] at hB'
 obtain ⟨⟨⟨⟨⟨⟨hsel, hnsc⟩, hseq⟩, hh⟩, _⟩, hks⟩, hbs⟩ := hB'
 have hnle : fl.length ≤ l.toArray.size := by
  rcases flowBK_n hnsc with h | h
  · exact Nat.le_of_eq h
  · exact Nat.le_of_lt h.1
 have hsz : l.toArray.size = l.length := by simp
 generalize hbsE : [(⟨a1, s1, x1, y1, T1, z1, v1⟩ : BxD), ⟨a2, s2, x2, y2, T2, z2, v2⟩] = bs at hB2 hks hbs
 have hwg := wpC_anti (P := P) (ops := l.toArray) (L := fun a' => a' = afin) (fun X hX => oall_B (bs := bs) (w := w) hX) (pick fl l) a h1
 have hrest := wpC_rest _ _ hwg
 have hslot : ∀ t, (∀ j, j < fl.length → isNd fl j = false → dstAt l.toArray j ≠ some t) → afin.tmps[t]? = a.tmps[t]? := fun t ht => by
  refine (wpC_slot _ _ ?_ hwg).1.symm
  have aux : ∀ (fs : List Bool) (l' : List Oper) (i : Nat), i + fs.length = fl.length → (∀ j, fs[j]? = fl[i + j]?) → (∀ j, l'[j]? = l.toArray[i + j]?) → ∀ o ∈ pick fs l', o.dst ≠ some t := by
   intro fs
   induction fs with
   | nil => intro l' i _ _ _ o ho; cases l' <;> simp [pick] at ho
   | cons b fs ih =>
    intro l' i hlen hfs hl' o ho
    cases l' with
    | nil => cases b <;> simp [pick] at ho
    | cons x l' =>
     have hx : l.toArray[i]? = some x := by have := hl' 0; rw [Nat.add_zero] at this; rw [← this]; rfl
     have hb : isNd fl i = b := by have := hfs 0; rw [Nat.add_zero] at this; unfold isNd; rw [← this]; rfl
     have hfs' : ∀ j, fs[j]? = fl[i + 1 + j]? := fun j => by have := hfs (j + 1); rw [show i + 1 + j = i + (j + 1) by omega, ← this]; rfl
     have hl'' : ∀ j, l'[j]? = l.toArray[i + 1 + j]? := fun j => by have := hl' (j + 1); rw [show i + 1 + j = i + (j + 1) by omega, ← this]; rfl
     cases b with
     | true => exact ih l' (i + 1) (by simp at hlen; omega) hfs' hl'' o ho
     | false =>
      rcases List.mem_cons.1 ho with rfl | ho
      · intro e
        exact ht i (by simp at hlen; omega) hb (by unfold dstAt; rw [hx]; exact e)
      · exact ih l' (i + 1) (by simp at hlen; omega) hfs' hl'' o ho
  exact aux fl l 0 (by omega) (fun j => by rw [Nat.zero_add]) (fun j => by rw [Nat.zero_add]; simp)
 have hdet := det_all (P := P) (C := Grw (OallK (stsB w bs)) w) (afin := afin) (headB_G hh) ha.size.symm rfl hnle (fun t => if (∃ j, j < fl.length ∧ isNd fl j = false ∧ dstAt l.toArray j = some t) then afin.tmps[t]? else a.tmps[t]?)
  (fun j t hj hnj hjt => if_pos ⟨j, hj, hnj, hjt⟩) (fun t ht => if_neg (fun ⟨j, hj, hnj, hjt⟩ => ht j hj hnj hjt))
  fl l 0 a (by omega) (fun j => by rw [Nat.zero_add]) (fun j => by rw [Nat.zero_add]; simp) rfl (fun t ⟨j, hj, _⟩ => absurd hj (Nat.not_lt_zero _)) (fun t _ => rfl) hwg
 have hmem : ∀ q ∈ bs, q = ⟨a1, s1, x1, y1, T1, z1, v1⟩ ∨ q = ⟨a2, s2, x2, y2, T2, z2, v2⟩ := fun q hq => by rw [← hbsE] at hq; simpa using hq
 refine wp_region_any hm ?_
 have := box_any (P := P) (w := w) (Q := Q) (tail := l.drop fl.length) (a := a) (afin := afin) (bs := bs) hB2 ha.size.symm (fun j => by rw [List.getElem?_drop, List.getElem?_toArray]) (by rw [List.length_drop, hsz]) hrest hslot
  (fun j o hj hnj ho => hdet j o (Nat.zero_le _) hj hnj ho) (by rw [← hbsE]; simp [ne1', ne2'])
  (fun q hq o ho ρ X => by rcases hmem q hq with rfl | rfl; exact hA1 o ho ρ X; exact hA2 o ho ρ X) (fun q hq o ty x' y' ho hop => by rcases hmem q hq with rfl | rfl; exact hS1 o ty x' y' ho hop; exact hS2 o ty x' y' ho hop)
  (fun q hq => by rcases hmem q hq with rfl | rfl; exact hz1; exact hz2) (fun q hq => by rcases hmem q hq with rfl | rfl; exact hy1; exact hy2)
  (fun b X bl e1 e2 e3 e4 e5 e6 => by
   obtain ⟨k1, k2, k3⟩ := e4 ⟨a1, s1, x1, y1, T1, z1, v1⟩ (by rw [← hbsE]; simp)
   obtain ⟨m1, m2, m3⟩ := e4 ⟨a2, s2, x2, y2, T2, z2, v2⟩ (by rw [← hbsE]; simp)
   exact hk b X (bl a1) (bl a2) e1 e2 (fun t h1 h2 => e3 t (fun q hq => by rcases hmem q hq with rfl | rfl; exact h1; exact h2)) k1 m1 k2 m2 (e5 ⟨a1, s1, x1, y1, T1, z1, v1⟩ (by rw [← hbsE]; simp) ⟨a2, s2, x2, y2, T2, z2, v2⟩ (by rw [← hbsE]; simp) ne1') k3 m3 e6)
  fl.length (Array.replicate l.toArray.size false) a { w with drawn := w.drawn + 1 } (fun _ => undef)
  (by
   rw [List.filter_eq_self.2 (fun j hj => by
    have hj' : j < l.toArray.size := by have := List.mem_range.1 hj; omega
    rw [getD_in (by rw [Array.size_replicate]; exact hj') (getD_replicate_false _ _)]; rfl)]
   simp)
  ⟨(Grw.refl _ w).drew, ⟨by simp, fun j oj _ hl => (by rw [getD_replicate_false] at hl; cases hl), fun t _ ht => getD_in (by simpa using ht) (getD_replicate_false _ _)⟩, rfl, rfl,
   fun i d _ _ hl => (by rw [getD_replicate_false] at hl; cases hl), fun t _ => rfl, fun pre d suf _ hl => (by rw [getD_replicate_false] at hl; cases hl), fun k _ => (Grw.refl _ w).drew, fun _ => (Grw.refl _ w).drew, fun i o _ _ _ hl => (by rw [getD_replicate_false] at hl; cases hl), fun i j oi oj _ _ _ _ _ _ _ hl => (by rw [getD_replicate_false] at hl; cases hl)⟩
  ⟨fun q _ hl => (by rw [getD_replicate_false] at hl; cases hl), fun q _ r _ _ hl => (by rw [getD_replicate_false] at hl; cases hl)⟩
 rw [show fl.length + (l.toArray.size - fl.length) = l.toArray.size by omega] at this
 exact this
theorem b2_end {M : List Nat} {w0 : World} {L : List Ent} {N a1 s1 a2 s2 : Nat} {x1 y1 x2 y2 : Tmp} {T1 T2 : TypeId} {z1 z2 : Array Value} {g : Act} {sl : List (Nat × Value)} {v1 v2 : Value} {o1 o2 o3 o4 : Oper} {ty1 ty2 : TypeId} {x3 y3 x4 y4 : Operand} (hg : Has ds g N sl) (hS : St M w0 w L)
 (hy1 : look sl y1 = some v1) (hy2 : look sl y2 = some v2) (ho1 : ops[a1]? = some o1) (ho2 : ops[a2]? = some o2) (ho3 : ops[s1]? = some o3) (ho4 : ops[s2]? = some o4) (hp3 : o3.op = .store ty1 x3 y3) (hp4 : o4.op = .store ty2 x4 y4)
 (hA1 : ∀ ρ X, (execOp ρ o1).run P X = .ok (.value (.pointer (some ⟨X.heap.size, 0, none⟩))) (X.alloc (.cells z1 T1))) (hA2 : ∀ ρ X, (execOp ρ o2).run P X = .ok (.value (.pointer (some ⟨X.heap.size, 0, none⟩))) (X.alloc (.cells z2 T2)))
 (hs1 : (P.info? ty1).map (·.size) = some v1.cells.size) (hs2 : (P.info? ty2).map (·.size) = some v2.cells.size) (hz1 : v1.cells.size = z1.size ∧ v1.cells.toList.all (·.oneCell') = true) (hz2 : v2.cells.size = z2.size ∧ v2.cells.toList.all (·.oneCell') = true)
 (k : ∀ b1 b2 a' X, Has ds a' N ((x2, .pointer (some ⟨b2, 0, none⟩)) :: (x1, .pointer (some ⟨b1, 0, none⟩)) :: sl) → St M w0 X (.box b2 v2.cells T2 :: .box b1 v1.cells T1 :: L) → wpList P ops Q tail a' X) : wpB2 P ops Q w tail a1 s1 x1 y1 T1 z1 a2 s2 x2 y2 T2 z2 g := by
 refine ⟨v1, v2, hg.slot _ _ hy1, hg.slot _ _ hy2, fun o ho ρ X => ?_, fun o ho ρ X => ?_, fun o ty x' y' ho hp => ?_, fun o ty x' y' ho hp => ?_, hz1, hz2, fun b X b1 b2 e1 e2 e3 e4 e5 e6 e7 e8 e9 e10 e11 => ?_⟩
 · rw [ho1] at ho; cases ho; exact hA1 ρ X
 · rw [ho2] at ho; cases ho; exact hA2 ρ X
 · rw [ho3] at ho; cases ho
   rw [hp3] at hp
   injection hp with h1 _ _
   rw [← h1]; exact hs1
 · rw [ho4] at ho; cases ho
   rw [hp4] at hp
   injection hp with h1 _ _
   rw [← h1]; exact hs2
 · refine k b1 b2 b X ⟨e2.trans hg.defers, e1.trans hg.size, fun t v hv => ?_⟩ ?_
   · unfold look at hv
     cases hb : Nat.beq x2 t with
     | true =>
      rw [hb] at hv
      have e : x2 = t := Nat.eq_of_beq_eq_true hb
      rw [← e, e5]
      exact hv
     | false =>
      rw [hb] at hv
      replace hv : look ((x1, Value.pointer (some ⟨b1, 0, none⟩)) :: sl) t = some v := hv
      unfold look at hv
      cases hb1 : Nat.beq x1 t with
      | true =>
       rw [hb1] at hv
       have e : x1 = t := Nat.eq_of_beq_eq_true hb1
       rw [← e, e4]
       exact hv
      | false =>
       rw [hb1] at hv
       rw [e3 t (Nat.ne_of_beq_eq_false hb1) (Nat.ne_of_beq_eq_false hb)]
       exact hg.slot t v hv
   · have h1 : St M w0 X (.box b1 v1.cells T1 :: L) := hS.add e11 (e := .box b1 v1.cells T1) e9 (fun b hb => by cases hb; exact ⟨e6, Box.lt e9⟩)
     exact St.add2 hS h1 (e2 := .box b2 v2.cells T2) e10 (fun b hb => by cases hb; exact ⟨e7, Box.lt e10⟩) (fun b hb h => e8 (h.symm.trans hb))
end
theorem St.rowTo {M : List Nat} {w X : World} {L : List Ent} {i n n' sz c : Nat} {A : Option Addr} {T : TypeId} {xs xs' : List Value} (h : St M w X L) (hi : L[i]? = some (.row (.slice A n c) n T sz xs)) (hn : n = n') (e : xs = xs') : St M w X (L.set i (.row (.slice A n' c) n' T sz xs')) := by
 subst hn e
 have : L.set i (.row (.slice A n c) n T sz xs) = L := by
  apply List.ext_getElem?
  intro j
  rw [List.getElem?_set]
  split
  · rename_i hij; subst hij
    split
    · exact hi.symm
    · rename_i h2; rw [List.getElem?_eq_none (by omega)]
  · rfl
 rw [this]; exact h
section
variable {P : Program} {ρ : Operand → Value} {X : World} {d : Option Tmp} {ty : TypeId} {ps : String} {af : Array Edge} {g : Option (Nat × Bool)}
end
end Go.Proofs.YtanicpgmbhfipaaGreatDoor
namespace Go.Proofs.YtanicpgmbhfipaaGreatDoor
set_option linter.unusedVariables false
set_option linter.unusedSimpArgs false
open Go.RowKit Go.Sort
variable {ds : List Deferred}
section
variable {P : Program} {ops : Array Oper} {Q : Exit → Act → World → Prop} {w : World}
structure PostInv (ops : Array Oper) (c : Nat) (a2 afin : Act) (X2 : World) (listed : Array Bool) (b : Act) (X : World) : Prop where
 below : Below X2.heap.size X2 X
 lsz : listed.size = ops.size
 pre : ∀ i, i ≤ c → listed.getD i false = true
 size : b.tmps.size = a2.tmps.size
 defers : b.defers = a2.defers
 done : ∀ i d, c < i → dstAt ops i = some d → listed.getD i false = true → b.tmps[d]? = afin.tmps[d]?
 rest : ∀ t, (∀ i, c < i → dstAt ops i = some t → listed.getD i true = false) → b.tmps[t]? = a2.tmps[t]?
structure PostC (ops : Array Oper) (c i N : Nat) (o : Oper) : Prop where
 dst : ∃ d, o.dst = some d ∧ d < N ∧ ∀ j, c < j → j < ops.size → j ≠ i → dstAt ops j ≠ some d
 wait : ∃ e ∈ o.after, Region.binds .any e = true ∧ c ≤ e.on ∧ e.on < i
 after : ∀ e ∈ o.after, Region.binds .any e = true → e.on < i
 look : ∀ t ∈ o.looksAt ops, ∀ j, c < j → j < ops.size → dstAt ops j = some t → j < i ∧ Region.waitsFor .any ops i j = true
end
end Go.Proofs.YtanicpgmbhfipaaGreatDoor
namespace Go.Proofs.YtanicpgmbhfipaaGreatDoor
set_option linter.unusedVariables false
set_option linter.unusedSimpArgs false
open Go.RowKit Go.Sort
section
variable {ds : List Deferred} {P : Program} {ops : Array Oper} {w : World} {Q : Exit → Act → World → Prop} {tail : List Oper} {a : Act} {o : Oper} {N : Nat} {l : List (Nat × Value)} {oc : List (Nat × (Nat → Prop))} {news : List (Nat × TypeId)}
end
end Go.Proofs.YtanicpgmbhfipaaGreatDoor
