/-
  The law of Flow within a fence: in a round of a range over a function, where no operation is a defer.
-/
import Derived.Test.YtanicpgmbhfipaaDoorFlow
import Derived.OrdersIn
import Derived.TacticsIn
import Derived.RangeFuncCalls
namespace Go.Proofs.YtanicpgmbhfipaaDoor
set_option linter.unusedVariables false
set_option linter.unusedSimpArgs false
open Go.RowKit Go.Sort

section
variable {P : Program} {ops : Array Oper} {w : World}
theorem any_flowE {Q : Exit → Act → World → Prop} {a : Act} {w : World} {l : List Oper} (sts : List (Nat × (Nat → Option Obj → Prop))) (fl : List Bool) (nds : List NdB)
    (hB : flowB l.toArray fl fl.length a.tmps.size (nds.map fun d => (d.k, d.deps)) = true) (hds : dstsB (pick fl l) a.tmps.size = true)
    (h : ∃ afin : Act, (∀ X, Grw (Oall sts) w X → wpQuiet P l.toArray (fun w' => ∃ p : Regrown, w' = grow (redrawn X p.d) p.os) (fun a' => a' = afin) (pick fl l) a) ∧ wpNE P l.toArray sts w Q (l.drop fl.length) nds afin []) :
    wpAny P .any l.toArray Q l.toArray.size (Array.replicate l.toArray.size false) a { w with drawn := w.drawn + 1 } := by
  obtain ⟨afin, hq, hnd⟩ := h
  have hwg := wpC_of_quiet (C := Grw (Oall sts) w) (Grw.refl _ w) (pick fl l) a hds hq
  have hB' := hB
  unfold flowB at hB'
  simp only [Bool.and_eq_true, decide_eq_true_eq] at hB'
  obtain ⟨⟨⟨⟨⟨⟨⟨⟨⟨hsel, hn⟩, hs⟩, hc⟩, hseq⟩, hh⟩, _⟩, hks⟩, hndB⟩, _⟩ := hB'
  have hsz : l.toArray.size = l.length := by simp
  have hrest := wpC_rest _ _ hwg
  have hslot : ∀ t, (∀ j, j < fl.length → isNd fl j = false → dstAt l.toArray j ≠ some t) → afin.tmps[t]? = a.tmps[t]? := fun t ht => by
    refine (wpC_slot _ _ ?_ hwg).1.symm
    have aux : ∀ (fs : List Bool) (l' : List Oper) (i : Nat), i + fs.length = fl.length → (∀ j, fs[j]? = fl[i + j]?) → (∀ j, l'[j]? = l.toArray[i + j]?) → ∀ o ∈ pick fs l', o.dst ≠ some t := by
      intro fs
      induction fs with
      | nil => intro l' i _ _ _ o ho; cases l' <;> simp [pick] at ho
      | cons b fs ih =>
        intro l' i hlen hfs hl' o ho
        cases l' with
        | nil => cases b <;> simp [pick] at ho
        | cons x l' =>
          have hx : l.toArray[i]? = some x := by have := hl' 0; rw [Nat.add_zero] at this; rw [← this]; rfl
          have hb : isNd fl i = b := by have := hfs 0; rw [Nat.add_zero] at this; unfold isNd; rw [← this]; rfl
          have hfs' : ∀ j, fs[j]? = fl[i + 1 + j]? := fun j => by have := hfs (j + 1); rw [show i + 1 + j = i + (j + 1) by omega, ← this]; rfl
          have hl'' : ∀ j, l'[j]? = l.toArray[i + 1 + j]? := fun j => by have := hl' (j + 1); rw [show i + 1 + j = i + (j + 1) by omega, ← this]; rfl
          cases b with
          | true => exact ih l' (i + 1) (by simp at hlen; omega) hfs' hl'' o ho
          | false =>
            rcases List.mem_cons.1 ho with rfl | ho
            · intro e
              exact ht i (by simp at hlen; omega) hb (by unfold dstAt; rw [hx]; exact e)
            · exact ih l' (i + 1) (by simp at hlen; omega) hfs' hl'' o ho
    exact aux fl l 0 (by omega) (fun j => by rw [Nat.zero_add]) (fun j => by rw [Nat.zero_add]; simp)
  have hdet := det_all (P := P) (C := Grw (Oall sts) w) (afin := afin) hh rfl rfl (Nat.le_of_lt hn) (fun t => if (∃ j, j < fl.length ∧ isNd fl j = false ∧ dstAt l.toArray j = some t) then afin.tmps[t]? else a.tmps[t]?)
    (fun j t hj hnj hjt => if_pos ⟨j, hj, hnj, hjt⟩) (fun t ht => if_neg (fun ⟨j, hj, hnj, hjt⟩ => ht j hj hnj hjt))
    fl l 0 a (by omega) (fun j => by rw [Nat.zero_add]) (fun j => by rw [Nat.zero_add]; simp) rfl (fun t ⟨j, hj, _⟩ => absurd hj (Nat.not_lt_zero _)) (fun t _ => rfl) hwg
  have := flow_any (P := P) (w := w) (Q := Q) (tail := l.drop fl.length) (a := a) (afin := afin) (sts := sts) hB rfl (fun j => by rw [List.getElem?_drop, List.getElem?_toArray]) (by rw [List.length_drop, hsz]) hrest hslot
    (fun j o hj hnj ho => hdet j o (Nat.zero_le _) hj hnj ho) hnd fl.length (Array.replicate l.toArray.size false) a { w with drawn := w.drawn + 1 } (fun _ => undef)
    (by
      rw [List.filter_eq_self.2 (fun j hj => by
        have hj' : j < l.toArray.size := by have := List.mem_range.1 hj; omega
        rw [getD_in (by rw [Array.size_replicate]; exact hj') (getD_replicate_false _ _)]; rfl)]
      simp)
    ⟨(Grw.refl _ w).drew, ⟨by simp, fun j oj _ hl => (by rw [getD_replicate_false] at hl; cases hl), fun t _ ht => getD_in (by simpa using ht) (getD_replicate_false _ _)⟩, rfl, rfl,
      fun i d _ _ hl => (by rw [getD_replicate_false] at hl; cases hl), fun t _ => rfl, fun pre d suf _ hl => (by rw [getD_replicate_false] at hl; cases hl), fun k _ => (Grw.refl _ w).drew⟩
  rw [show fl.length + (l.toArray.size - fl.length) = l.toArray.size by omega] at this
  exact this
end

def noDeferB (ops : Array Oper) : Bool := ops.all fun o => match o.op with | .defer _ => false | _ => true
theorem noDefer {ops : Array Oper} (h : noDeferB ops = true) {i : Nat} {o : Oper} (ho : ops[i]? = some o) : ∀ c, o.op ≠ .defer c := by
  intro c hc
  obtain ⟨hi, he⟩ := Array.getElem?_eq_some_iff.1 ho
  have := Array.all_eq_true.1 h i hi
  rw [he, hc] at this
  cases this

section
variable {P : Program} {ops : Array Oper} {Q : Exit → Act → World → Prop} {lr n : Nat}
theorem wpOpIn_of (hd : noDeferB ops = true) (hQ : ¬ LetsOut Q) {i : Nat} {K K' : Act → World → Prop} {a : Act} {w : World} (hK : ∀ a w, K a w → K' a w) (h : wpOp P ops Q i K a w) : wpOpIn (Fence.wide.inRound lr) n P ops Q i K' a w := by
  unfold wpOp at h
  unfold wpOpIn
  cases ho : ops[i]? with
  | none => rw [ho] at h; exact hK _ _ h
  | some o =>
    rw [ho] at h
    simp only at h ⊢
    split
    · rename_i hw
      rw [if_pos hw] at h
      have h := h.resolve_right (fun h => hQ h.2)
      unfold Oper.wp at h
      unfold Oper.wpIn
      refine ⟨fun _ _ => trivial, ?_⟩
      rw [show (Fence.wide.inRound lr).round = some lr from rfl, Oper.semAt_some lr _ _ (noDefer hd ho)]
      generalize (execOp a.eval o).run P w = r at *
      cases r with
      | ok x w' =>
        cases x <;> simp only [Oper.upon, Oper.uponIn] at h ⊢
        case value v => exact hK _ _ h
        case skip => exact hK _ _ h
        case defer d => exact hK _ _ h
        case enter f args => exact ⟨fun e => (by cases e), CallsIn.inRound lr (callsIn_wide.2 (h.mono fun e w'' he => by cases e <;> first | exact hK _ _ he | exact he))⟩
        case row row args => exact ⟨fun e => (by cases e), fun c cs _ => let ⟨v, w'', hr, hs⟩ := h c cs; ⟨v, w'', hK _ _ hr, stepsIn_wide.2 hs⟩⟩
      | halt x w' => cases x <;> simp only [Oper.upon, Oper.uponIn] at h ⊢ <;> exact h
    · rename_i hw
      rw [if_neg hw] at h
      exact ⟨fun _ _ => trivial, hK _ _ h⟩
theorem wpAnyIn_of (hd : noDeferB ops = true) (hQ : ¬ LetsOut Q) {md : Region.Mode} : ∀ (fuel : Nat) (listed : Array Bool) (a : Act) (w : World), wpAny P md ops Q fuel listed a w → wpAnyIn (Fence.wide.inRound lr) n P md ops Q fuel listed a w
  | 0, _, _, _, h => h
  | fuel + 1, listed, a, w, ⟨h1, h2⟩ => ⟨h1, fun i hi => wpOpIn_of hd hQ (fun a w h => wpAnyIn_of hd hQ fuel _ a w h) (h2 i hi)⟩
/-- the law, in a round -/
theorem wpIn_region_flowE {id : Nat} {a : Act} {w : World} {l : List Oper} (sts : List (Nat × (Nat → Option Obj → Prop))) (fl : List Bool) (nds : List NdB) (hm : P.follows .mixedOrders = true) (hd : noDeferB l.toArray = true) (hQ : ¬ LetsOut Q)
    (hB : flowB l.toArray fl fl.length a.tmps.size (nds.map fun d => (d.k, d.deps)) = true) (hds : dstsB (pick fl l) a.tmps.size = true)
    (h : ∃ afin : Act, (∀ X, Grw (Oall sts) w X → wpQuiet P l.toArray (fun w' => ∃ p : Regrown, w' = grow (redrawn X p.d) p.os) (fun a' => a' = afin) (pick fl l) a) ∧ wpNE P l.toArray sts w Q (l.drop fl.length) nds afin []) :
    (Code.region id l.toArray true).wpIn (Fence.wide.inRound lr) n P Q a w :=
  wpIn_region_any hm (wpAnyIn_of hd hQ _ _ _ _ (any_flowE sts fl nds hB hds h))
/-- the law, in a wide fence -/
theorem wpIn_region_flowW {id : Nat} {a : Act} {w : World} {l : List Oper} (sts : List (Nat × (Nat → Option Obj → Prop))) (fl : List Bool) (nds : List NdB) (hm : P.follows .mixedOrders = true)
    (hB : flowB l.toArray fl fl.length a.tmps.size (nds.map fun d => (d.k, d.deps)) = true) (hds : dstsB (pick fl l) a.tmps.size = true)
    (h : ∃ afin : Act, (∀ X, Grw (Oall sts) w X → wpQuiet P l.toArray (fun w' => ∃ p : Regrown, w' = grow (redrawn X p.d) p.os) (fun a' => a' = afin) (pick fl l) a) ∧ wpNE P l.toArray sts w Q (l.drop fl.length) nds afin []) :
    (Code.region id l.toArray true).wpIn Fence.wide n P Q a w :=
  wpIn_wide.2 (wp_region_flowE sts fl nds hm hB hds h)
theorem wpNE_of_ND {w : World} {tail : List Oper} : ∀ (nds : List Nd) (g : Act) (Φ : List (Nat × (World → Prop))), wpND P ops w Q tail nds g Φ → wpNE P ops [] w Q tail (nds.map fun d => d.lift.lift) g Φ
  | [], g, Φ, h => fun X hX hΦ => h X (hX.weaken (O' := fun _ _ => False) (fun x o ⟨p, hp, _⟩ => by cases hp)).below hΦ
  | d :: rest, g, Φ, ⟨h1, h2, h3⟩ => by
    refine ⟨⟨h1, fun p hp => (by cases hp), fun _ v X _ h => h⟩, fun o ho X hX hΦ => ?_, fun v => wpNE_of_ND rest _ _ (h3 v)⟩
    have h := h2 o ho X (hX.weaken (O' := fun _ _ => False) (fun x o ⟨p, hp, _⟩ => by cases hp)).below hΦ
    change LeavesR P d.R X ((execOp g.eval o).run P X) at h
    change LeavesE P [] d.k d.R X ((execOp g.eval o).run P X)
    generalize (execOp g.eval o).run P X = r at *
    cases r with
    | ok nx w' =>
      cases nx <;> simp only [LeavesR] at h <;> simp only [LeavesE]
      case value u => exact ⟨.inl h.1, h.2⟩
      case enter f args => exact ⟨h.1, h.2.mono fun e X'' ⟨v, h1, h2, h3⟩ => ⟨v, h1, .inl h2, h3⟩⟩
    | halt x w' => simp only [LeavesR] at h
/-- the law without stores, in a round and in a wide fence -/
theorem wpIn_region_flow {id : Nat} {a : Act} {w : World} {l : List Oper} (fl : List Bool) (nds : List Nd) (hm : P.follows .mixedOrders = true) (hd : noDeferB l.toArray = true) (hQ : ¬ LetsOut Q)
    (hB : flowB l.toArray fl fl.length a.tmps.size (nds.map fun d => (d.k, d.deps)) = true) (hds : dstsB (pick fl l) a.tmps.size = true)
    (h : ∃ afin : Act, (∀ X, Below w.heap.size w X → wpQuiet P l.toArray (fun w' => ∃ p : Regrown, w' = grow (redrawn X p.d) p.os) (fun a' => a' = afin) (pick fl l) a) ∧ wpND P l.toArray w Q (l.drop fl.length) nds afin []) :
    (Code.region id l.toArray true).wpIn (Fence.wide.inRound lr) n P Q a w := by
  obtain ⟨afin, hq, hnd⟩ := h
  exact wpIn_region_flowE [] fl (nds.map fun d => d.lift.lift) hm hd hQ (by rw [List.map_map]; exact hB) hds ⟨afin, fun X hX => hq X (hX.weaken (O' := fun _ _ => False) (fun x o ⟨p, hp, _⟩ => by cases hp)).below, wpNE_of_ND nds afin _ hnd⟩
theorem wpIn_region_flowV {id : Nat} {a : Act} {w : World} {l : List Oper} (fl : List Bool) (nds : List Nd) (hm : P.follows .mixedOrders = true)
    (hB : flowB l.toArray fl fl.length a.tmps.size (nds.map fun d => (d.k, d.deps)) = true) (hds : dstsB (pick fl l) a.tmps.size = true)
    (h : ∃ afin : Act, (∀ X, Below w.heap.size w X → wpQuiet P l.toArray (fun w' => ∃ p : Regrown, w' = grow (redrawn X p.d) p.os) (fun a' => a' = afin) (pick fl l) a) ∧ wpND P l.toArray w Q (l.drop fl.length) nds afin []) :
    (Code.region id l.toArray true).wpIn Fence.wide n P Q a w := by
  obtain ⟨afin, hq, hnd⟩ := h
  exact wpIn_region_flowW [] fl (nds.map fun d => d.lift.lift) hm (by rw [List.map_map]; exact hB) hds ⟨afin, fun X hX => hq X (hX.weaken (O' := fun _ _ => False) (fun x o ⟨p, hp, _⟩ => by cases hp)).below, wpNE_of_ND nds afin _ hnd⟩
end
end Go.Proofs.YtanicpgmbhfipaaDoor
