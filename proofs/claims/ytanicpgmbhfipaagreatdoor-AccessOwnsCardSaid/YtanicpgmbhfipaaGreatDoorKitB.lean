/-
  Regions that draw their order, the general law: operations that lay new memory ('loud': calls that hand back new slices, slices of one element, boxes) stand among operations that hand back one value whatever the order ('det'). Each operation comes when what it takes is there; so no order need be looked at. What is loud hands back a value of which a fact R is told that outlives new memory. What stands behind (an append, a store) comes last, in order.
  Chapter 17, plain words: entries, descriptors, tokens; what decides a right.
  Chapter 17, plain: bits of numbers that are not negative.
  Chapter 17: identities, the errors of an entry and of an owner; masks.
  Chapter 17: entries: CheckAce, AceErr; lists of numbers: Has, Contains; the error of an order.
  Chapter 17: first over a slice that is made within a drawn region; the error of an entry of a descriptor.
  Chapter 17: each over the entries of a descriptor.
  slices.Grow of the nil slice and slices.Concat of two slices, at entries (four cells) and at numbers.
  Chapter 17: CheckDescriptor.
  Chapter 17: the error of ascending identities.
  Chapter 17: usersErr.
  Chapter 17: CheckToken.
  Chapter 17: whether a token has an identity, whether an entry counts.
  Chapter 17: Contains; what privileges grant; whether an entry counts.
-/
import Derived.Test.YtanicpgmbhfipaaGreatDoorKitA
import Derived.Laws.BitsAllLaws
import Derived.Test.YtanicpgmbhfipaaGreatDoorShCAccessOwns
import Derived.Lib.AppendZerosOnto
import Derived.Lib.SliceRun
import Derived.Lib.Walk
namespace Go.Proofs.YtanicpgmbhfipaaGreatDoor
set_option linter.unusedVariables false
set_option linter.unusedSimpArgs false
open Go.RowKit Go.Sort
structure Nd where
 k : Nat
 deps : List Nat
 R : Value → World → Prop
 st : Bool
structure NdA where
 k : Nat
 deps : List Nat
 R : Act → Value → World → Prop
 st : Bool
structure NdB where
 k : Nat
 deps : List Nat
 R : Act → Value → World → Prop
def Nd.lift (d : Nd) : NdA := ⟨d.k, d.deps, fun _ => d.R, d.st⟩
def NdA.lift (d : NdA) : NdB := ⟨d.k, d.deps, d.R⟩
def told (deps : List Nat) : List (Nat × (World → Prop)) → World → Prop
 | [], _ => True
 | (j, F) :: r, X => if deps.contains j = true then F X ∧ told deps r X else told deps r X
def toldAll : List (Nat × (World → Prop)) → World → Prop
 | [], _ => True
 | (_, F) :: r, X => F X ∧ toldAll r X
structure Grw (O : Nat → Option Obj → Prop) (w X : World) : Prop where
 os : X.os = w.os
 tape : X.tape = w.tape
 output : X.output = w.output
 size : w.heap.size ≤ X.heap.size
 block : ∀ b, b < w.heap.size → ¬ O b w.heap[b]? → X.heap[b]? = w.heap[b]?
 shape : ∀ (b : Nat) (cs : Array Value) (T : TypeId) (fr : Nat × Nat), w.heap[b]? = some (Obj.cells cs T fr) → ∃ cs' : Array Value, cs'.size = cs.size ∧ X.heap[b]? = some (Obj.cells cs' T fr)
theorem Grw.refl (O : Nat → Option Obj → Prop) (w : World) : Grw O w w := ⟨rfl, rfl, rfl, Nat.le_refl _, fun _ _ _ => rfl, fun b cs T fr h => ⟨cs, rfl, h⟩⟩
theorem Grw.trans {O : Nat → Option Obj → Prop} {a b c : World} (h : Grw O a b) (k : Grw O b c) : Grw O a c :=
 ⟨k.os.trans h.os, k.tape.trans h.tape, k.output.trans h.output, Nat.le_trans h.size k.size, fun x hx hO => by
  have e := h.block x hx hO
  exact (k.block x (Nat.lt_of_lt_of_le hx h.size) (by rw [e]; exact hO)).trans e,
  fun x cs T fr hx => by
   obtain ⟨c1, h1, h2⟩ := h.shape x cs T fr hx
   obtain ⟨c2, h3, h4⟩ := k.shape x c1 T fr h2
   exact ⟨c2, h3.trans h1, h4⟩⟩
theorem Grw.of_below {O : Nat → Option Obj → Prop} {a b : World} (h : Below a.heap.size a b) : Grw O a b :=
 ⟨h.os, h.tape, h.output, h.size, fun x hx _ => h.block x hx, fun x cs T fr hx => ⟨cs, rfl, (h.block x (Array.getElem?_eq_some_iff.1 hx).1).trans hx⟩⟩
theorem Grw.weaken {O O' : Nat → Option Obj → Prop} {a b : World} (h : Grw O a b) (hO : ∀ x o, O x o → O' x o) : Grw O' a b :=
 ⟨h.os, h.tape, h.output, h.size, fun x hx hn => h.block x hx (fun h => hn (hO _ _ h)), h.shape⟩
theorem Grw.below {a b : World} (h : Grw (fun _ _ => False) a b) : Below a.heap.size a b := ⟨h.os, h.tape, h.output, h.size, fun x hx => h.block x hx (fun h => h)⟩
theorem Grw.drew {O : Nat → Option Obj → Prop} {a b : World} (h : Grw O a b) : Grw O a { b with drawn := b.drawn + 1 } := ⟨h.os, h.tape, h.output, h.size, h.block, h.shape⟩
theorem Grw.cell {O : Nat → Option Obj → Prop} {a b : World} (h : Grw O a b) {p : Addr} (hp : p.block < a.heap.size) (hO : ¬ O p.block a.heap[p.block]?) : b.cell? p = a.cell? p := World.cell?_of_block (h.block p.block hp hO)
section
variable {P : Program} {ops : Array Oper} {w : World}
def LeavesR (P : Program) (R : Value → World → Prop) (X : World) : Result Next → Prop
 | .ok (.value u) X' => Below X.heap.size X X' ∧ R u X'
 | .ok (.enter f args) X' => X' = X ∧ Calls P f args X (fun e X'' => ∃ v, e = .returned v ∧ Below X.heap.size X X'' ∧ R v X'')
 | _ => False
def LeavesO (P : Program) (O : Nat → Option Obj → Prop) (st : Bool) (R : Value → World → Prop) (X : World) (r : Result Next) : Prop :=
 LeavesR P R X r ∨ (st = true ∧ ∃ X', r = .ok .skip X' ∧ Grw O X X' ∧ R undef X')
def Eff (sts : List (Nat × (Nat → Option Obj → Prop))) (k : Nat) (X X' : World) : Prop := Below X.heap.size X X' ∨ ∃ p ∈ sts, p.1 = k ∧ Grw p.2 X X'
def LeavesE (P : Program) (sts : List (Nat × (Nat → Option Obj → Prop))) (k : Nat) (R : Value → World → Prop) (X : World) : Result Next → Prop
 | .ok (.value u) X' => Eff sts k X X' ∧ R u X'
 | .ok .skip X' => Eff sts k X X' ∧ R undef X'
 | .ok (.enter f args) X' => X' = X ∧ Calls P f args X (fun e X'' => ∃ v, e = .returned v ∧ Eff sts k X X'' ∧ R v X'')
 | _ => False
def Oall (sts : List (Nat × (Nat → Option Obj → Prop))) (b : Nat) (o : Option Obj) : Prop := ∃ p ∈ sts, p.2 b o
def Ooth (sts : List (Nat × (Nat → Option Obj → Prop))) (k : Nat) (b : Nat) (o : Option Obj) : Prop := ∃ p ∈ sts, p.1 ≠ k ∧ p.2 b o
def dstAt (ops : Array Oper) (i : Nat) : Option Tmp := (ops[i]?).bind (·.dst)
def isAl (o : Oper) : Bool := match o.op with | .alloc _ => true | .box _ _ => true | _ => false
theorem run_al {o : Oper} (h : isAl o = true) {ρ : Operand → Value} {X X' : World} {nx : Next} (hr : (execOp ρ o).run P X = .ok nx X') : nx = .value (.pointer (some ⟨X.heap.size, 0, none⟩)) ∧ X.heap.size < X'.heap.size := by
 obtain ⟨d, op, ty, ps, af, g⟩ := o
 unfold isAl at h
 cases op <;> simp only [Bool.false_eq_true] at h
 case alloc t =>
  cases hq : P.info? t with
  | none => simp [execOp, Instr.alloc, zeroValue, typeInfo, hq] at hr
  | some i =>
   cases hz : i.zero with
   | none => simp [execOp, Instr.alloc, zeroValue, typeInfo, hq, hz] at hr
   | some z =>
    simp [execOp, Instr.alloc, zeroValue, typeInfo, hq, hz, newVar, newRow] at hr
    obtain ⟨h1, h2⟩ := hr
    subst h1 h2
    exact ⟨rfl, by show X.heap.size < (X.heap.push _).size; simp⟩
 case box t x =>
  have e : (execOp ρ ⟨d, .box t x, ty, ps, af, g⟩).run P X = .ok (.value (.pointer (some ⟨X.heap.size, 0, none⟩))) (X.alloc (.cells (ρ x).cells t)) := rfl
  rw [e] at hr
  cases hr
  exact ⟨rfl, by show X.heap.size < (X.heap.push _).size; simp⟩
def DistB (ops : Array Oper) (ks : List Nat) (g : Act) : Prop := ∀ i ∈ ks, ∀ j ∈ ks, i ≠ j → ∀ oi oj s t, ops[i]? = some oi → ops[j]? = some oj → isAl oi = true → isAl oj = true → oi.dst = some s → oj.dst = some t → g.tmps[s]? ≠ g.tmps[t]?
theorem DistB.mono {ks ks' : List Nat} {g : Act} (h : DistB ops ks g) (hs : ∀ k ∈ ks', k ∈ ks) : DistB ops ks' g := fun i hi j hj => h i (hs i hi) j (hs j hj)
def wpNE (P : Program) (ops : Array Oper) (sts : List (Nat × (Nat → Option Obj → Prop))) (w : World) (Q : Exit → Act → World → Prop) (tail : List Oper) : List NdB → Act → List (Nat × (World → Prop)) → Prop
 | [], g, Φ => ∀ X, Grw (Oall sts) w X → toldAll Φ X → wpList P ops Q tail g X
 | d :: rest, g, Φ => ((∀ v X X', d.R g v X → Below X.heap.size X X' → d.R g v X') ∧ (∀ p ∈ sts, p.1 ≠ d.k → p.1 ∉ d.deps → ∀ v X X', d.R g v X → Grw p.2 X X' → d.R g v X') ∧
  (∀ g' v X, (∀ j ∈ d.deps, ∀ t, dstAt ops j = some t → g'.tmps[t]? = g.tmps[t]?) → d.R g v X → d.R g' v X)) ∧
  (∀ o, ops[d.k]? = some o → ∀ X, Grw (Ooth sts d.k) w X → told d.deps Φ X → LeavesE P sts d.k (d.R g) X ((execOp g.eval o).run P X)) ∧
  ∀ v, wpNE P ops sts w Q tail rest (g.put (dstAt ops d.k) v) ((d.k, d.R g v) :: Φ)
def wpNO (P : Program) (ops : Array Oper) (O : Nat → Option Obj → Prop) (w : World) (Q : Exit → Act → World → Prop) (tail : List Oper) : List NdA → Act → List (Nat × (World → Prop)) → Prop
 | [], g, Φ => ∀ X, Grw O w X → toldAll Φ X → wpList P ops Q tail g X
 | d :: rest, g, Φ => ((∀ v X X', d.R g v X → Below X.heap.size X X' → d.R g v X') ∧ (d.st = false → ∀ v X X', d.R g v X → Grw O X X' → d.R g v X') ∧
  (∀ g' v X, (∀ j ∈ d.deps, ∀ t, dstAt ops j = some t → g'.tmps[t]? = g.tmps[t]?) → d.R g v X → d.R g' v X)) ∧
  (∀ o, ops[d.k]? = some o → ∀ X, Grw O w X → (d.st = true → Below w.heap.size w X) → told d.deps Φ X → LeavesO P O d.st (d.R g) X ((execOp g.eval o).run P X)) ∧
  ∀ v, wpNO P ops O w Q tail rest (g.put (dstAt ops d.k) v) ((d.k, d.R g v) :: Φ)
theorem wpNE_of_NO {O : Nat → Option Obj → Prop} {Q : Exit → Act → World → Prop} {tail : List Oper} (all : List NdA) (hone1 : ∀ e ∈ all, ∀ f ∈ all, e.st = true → f.st = true → e.k = f.k) (huniq : ∀ e ∈ all, ∀ f ∈ all, e.k = f.k → e.st = f.st) :
 ∀ (nds : List NdA) (g : Act) (Φ : List (Nat × (World → Prop))), (∀ d ∈ nds, d ∈ all) → wpNO P ops O w Q tail nds g Φ → wpNE P ops ((all.filter (·.st)).map fun d => (d.k, O)) w Q tail (nds.map NdA.lift) g Φ
 | [], g, Φ, _, h => fun X hX hΦ => h X (hX.weaken (fun x o ⟨p, hp, hpo⟩ => by obtain ⟨d, _, rfl⟩ := List.mem_map.1 hp; exact hpo)) hΦ
 | d :: rest, g, Φ, hsub, ⟨⟨h1, h1b, h1c⟩, h2, h3⟩ => by
  refine ⟨⟨h1, fun p hp hne _ v X X' hR hX => ?_, h1c⟩, fun o ho X hX hΦ => ?_, fun v => wpNE_of_NO all hone1 huniq rest _ _ (fun x hx => hsub x (by simp [hx])) (h3 v)⟩
  · obtain ⟨e, he, rfl⟩ := List.mem_map.1 hp
    obtain ⟨he1, he2⟩ := List.mem_filter.1 he
    cases hds : d.st with
    | false => exact h1b hds v X X' hR hX
    | true => exact absurd (hone1 e he1 d (hsub d (by simp)) he2 hds) hne
  · have hgx : Grw O w X := hX.weaken (fun x o ⟨p, hp, _, hpo⟩ => by obtain ⟨d, _, rfl⟩ := List.mem_map.1 hp; exact hpo)
    have := h2 o ho X hgx (fun hds => (hX.weaken (O' := fun _ _ => False) (fun x o ⟨p, hp, hne, hpo⟩ => by
     obtain ⟨e, he, rfl⟩ := List.mem_map.1 hp
     obtain ⟨he1, he2⟩ := List.mem_filter.1 he
     exact hne (hone1 e he1 d (hsub d (by simp)) he2 hds))).below) hΦ
    rcases this with h | ⟨hds, X', h4, h5, h6⟩
    · generalize (execOp g.eval o).run P X = r at *
      cases r with
      | ok nx w' =>
       cases nx <;> simp only [LeavesR] at h <;> simp only [LeavesE]
       case value u => exact ⟨.inl h.1, h.2⟩
       case enter f args => exact ⟨h.1, h.2.mono fun e X'' ⟨v, h1, h2, h3⟩ => ⟨v, h1, .inl h2, h3⟩⟩
      | halt x w' => simp only [LeavesR] at h
    · rw [h4]
      exact ⟨.inr ⟨(d.k, O), List.mem_map.2 ⟨d, List.mem_filter.2 ⟨hsub d (by simp), hds⟩, rfl⟩, rfl, h5⟩, h6⟩
def wpND (P : Program) (ops : Array Oper) (w : World) (Q : Exit → Act → World → Prop) (tail : List Oper) : List Nd → Act → List (Nat × (World → Prop)) → Prop
 | [], g, Φ => ∀ X, Below w.heap.size w X → toldAll Φ X → wpList P ops Q tail g X
 | d :: rest, g, Φ => (∀ v X X', d.R v X → Below X.heap.size X X' → d.R v X') ∧
  (∀ o, ops[d.k]? = some o → ∀ X, Below w.heap.size w X → told d.deps Φ X → LeavesR P d.R X ((execOp g.eval o).run P X)) ∧
  ∀ v, wpND P ops w Q tail rest (g.put (dstAt ops d.k) v) ((d.k, d.R v) :: Φ)
theorem wpNO_of_ND {Q : Exit → Act → World → Prop} {tail : List Oper} : ∀ (nds : List Nd) (g : Act) (Φ : List (Nat × (World → Prop))), wpND P ops w Q tail nds g Φ → wpNO P ops (fun _ _ => False) w Q tail (nds.map Nd.lift) g Φ
 | [], g, Φ, h => fun X hX hΦ => h X hX.below hΦ
 | d :: rest, g, Φ, ⟨h1, h2, h3⟩ => ⟨⟨h1, fun _ v X X' hR hX => h1 v X X' hR hX.below, fun _ v X _ h => h⟩, fun o ho X hX _ hΦ => .inl (h2 o ho X hX.below hΦ), fun v => wpNO_of_ND rest _ _ (h3 v)⟩
def putAll (ops : Array Oper) (vals : Nat → Value) (nds : List NdB) (g : Act) : Act := nds.foldl (fun g d => g.put (dstAt ops d.k) (vals d.k)) g
theorem putAll_congr (vals vals' : Nat → Value) : ∀ (nds : List NdB) (g : Act), (∀ e ∈ nds, vals e.k = vals' e.k) → putAll ops vals nds g = putAll ops vals' nds g
 | [], _, _ => rfl
 | d :: rest, g, h => by
  show putAll ops vals rest (g.put (dstAt ops d.k) (vals d.k)) = putAll ops vals' rest (g.put (dstAt ops d.k) (vals' d.k))
  rw [h d (by simp)]
  exact putAll_congr vals vals' rest _ (fun e he => h e (by simp [he]))
theorem put_size (a : Act) (d : Option Tmp) (v : Value) : (a.put d v).tmps.size = a.tmps.size := by unfold Act.put; split <;> simp
theorem put_defers (a : Act) (d : Option Tmp) (v : Value) : (a.put d v).defers = a.defers := by unfold Act.put; split <;> rfl
theorem put_ne {a : Act} {d : Option Tmp} {t : Tmp} (h : d ≠ some t) (v : Value) : (a.put d v).tmps[t]? = a.tmps[t]? := by
 unfold Act.put
 split
 · rename_i u
   exact Array.getElem?_setIfInBounds_ne (fun e => h (by rw [e]))
 · rfl
theorem put_eq {a : Act} {t : Tmp} (h : t < a.tmps.size) (v : Value) : (a.put (some t) v).tmps[t]? = some v := by
 unfold Act.put
 simp [h]
theorem putAll_size (vals : Nat → Value) : ∀ (nds : List NdB) (g : Act), (putAll ops vals nds g).tmps.size = g.tmps.size ∧ (putAll ops vals nds g).defers = g.defers
 | [], g => ⟨rfl, rfl⟩
 | d :: rest, g => by
  obtain ⟨h1, h2⟩ := putAll_size vals rest (g.put (dstAt ops d.k) (vals d.k))
  exact ⟨h1.trans (put_size _ _ _), h2.trans (put_defers _ _ _)⟩
theorem putAll_at (vals vals' : Nat → Value) (t : Tmp) : ∀ (nds : List NdB) (g g' : Act), g.tmps.size = g'.tmps.size → g.tmps[t]? = g'.tmps[t]? → (∀ e ∈ nds, dstAt ops e.k = some t → vals e.k = vals' e.k) → (putAll ops vals nds g).tmps[t]? = (putAll ops vals' nds g').tmps[t]?
 | [], g, g', _, h, _ => h
 | d :: rest, g, g', hs, h, hv => by
  refine putAll_at vals vals' t rest _ _ (by rw [put_size, put_size]; exact hs) ?_ (fun e he => hv e (by simp [he]))
  show (g.put (dstAt ops d.k) (vals d.k)).tmps[t]? = (g'.put (dstAt ops d.k) (vals' d.k)).tmps[t]?
  by_cases hd : dstAt ops d.k = some t
  · rw [hd, hv d (by simp) hd]
    by_cases ht : t < g.tmps.size
    · rw [put_eq ht, put_eq (by rw [← hs]; exact ht)]
    · rw [Array.getElem?_eq_none (by rw [put_size]; exact Nat.le_of_not_lt ht), Array.getElem?_eq_none (by rw [put_size, ← hs]; exact Nat.le_of_not_lt ht)]
  · rw [put_ne hd, put_ne hd]; exact h
theorem putAll_ne (vals : Nat → Value) (t : Tmp) : ∀ (nds : List NdB) (g : Act), (∀ e ∈ nds, dstAt ops e.k ≠ some t) → (putAll ops vals nds g).tmps[t]? = g.tmps[t]?
 | [], g, _ => rfl
 | d :: rest, g, h => (putAll_ne vals t rest _ (fun e he => h e (by simp [he]))).trans (put_ne (h d (by simp)) _)
theorem putAll_eq (vals : Nat → Value) (t : Tmp) (k : Nat) : ∀ (nds : List NdB) (g : Act), t < g.tmps.size → (∃ e ∈ nds, e.k = k) → (dstAt ops k = some t) → (∀ e ∈ nds, dstAt ops e.k = some t → e.k = k) → (putAll ops vals nds g).tmps[t]? = some (vals k)
 | [], g, _, h, _, _ => by obtain ⟨e, he, _⟩ := h; cases he
 | d :: rest, g, ht, h, hk, hu => by
  by_cases hr : ∃ e ∈ rest, e.k = k
  · exact putAll_eq vals t k rest _ (by rw [put_size]; exact ht) hr hk (fun e he => hu e (by simp [he]))
  · have hd : d.k = k := by
     obtain ⟨e, he, hek⟩ := h
     rcases List.mem_cons.1 he with rfl | he
     · exact hek
     · exact absurd ⟨e, he, hek⟩ hr
    show (putAll ops vals rest (g.put (dstAt ops d.k) (vals d.k))).tmps[t]? = _
    rw [putAll_ne vals t rest _ (fun e he e2 => hr ⟨e, he, hu e (by simp [he]) e2⟩), hd, hk]
    exact put_eq ht _
theorem exec_same {o : Oper} (hs : ∀ cs b, o.op ≠ .select cs b) {b g : Act} (h : ∀ t ∈ o.looksAt ops, b.tmps[t]? = g.tmps[t]?) : execOp b.eval o = execOp g.eval o :=
 execOp_congr o hs fun x hx => by
  cases x with
  | tmp t =>
   have := h t (List.mem_append_left _ (List.mem_filterMap.2 ⟨.tmp t, by simpa using hx, rfl⟩))
   simp [Act.eval, this]
  | _ => rfl
theorem wanted_same {o : Oper} {b g : Act} (h : ∀ t ∈ o.looksAt ops, b.tmps[t]? = g.tmps[t]?) : Region.wanted o (yielded ops b.tmps) = Region.wanted o (yielded ops g.tmps) := by
 unfold Region.wanted
 cases hg : o.guard with
 | none => rfl
 | some gw =>
  obtain ⟨k, want⟩ := gw
  have hy : yielded ops b.tmps k = yielded ops g.tmps k := by
   unfold yielded
   cases ht : (ops[k]?).bind (·.dst) with
   | none => rfl
   | some t =>
    have := h t (by simp [Oper.looksAt, hg, ht])
    simp [this]
  simp only [hy]
def GrowsC (P : Program) (C : World → Prop) (s : Sem Next) (v : Value) : Prop := ∀ X, C X → Oper.quietUpon P (fun X' => Below X.heap.size X X') X v (s.run P X)
def wpC (P : Program) (ops : Array Oper) (C : World → Prop) (L : Act → Prop) : List Oper → Act → Prop
 | [], a => L a
 | o :: rest, a => if Region.wanted o (yielded ops a.tmps) then ∃ v, GrowsC P C (execOp a.eval o) v ∧ wpC P ops C L rest (a.put o.dst v) else wpC P ops C L rest (a.put o.dst undef)
def YieldsC (P : Program) (ops : Array Oper) (C : World → Prop) (o : Oper) (v : Value) (a : Act) : Prop :=
 (Region.wanted o (yielded ops a.tmps) = true ∧ GrowsC P C (execOp a.eval o) v) ∨ (Region.wanted o (yielded ops a.tmps) = false ∧ v = undef)
theorem YieldsC.of_same {C : World → Prop} {o : Oper} {v : Value} {a a' : Act} (hy : YieldsC P ops C o v a) (he : execOp a'.eval o = execOp a.eval o)
 (hw : Region.wanted o (yielded ops a'.tmps) = Region.wanted o (yielded ops a.tmps)) : YieldsC P ops C o v a' := by
 unfold YieldsC at *
 rw [he, hw]
 exact hy
theorem wpC_of_quiet {C : World → Prop} {afin : Act} (hC : C w) : ∀ (l : List Oper) (a : Act), dstsB l a.tmps.size = true →
 (∀ X, C X → wpQuiet P ops (fun w' => ∃ p : Regrown, w' = grow (redrawn X p.d) p.os) (fun a' => a' = afin) l a) → wpC P ops C (fun a' => a' = afin) l a
 | [], a, _, h => h w hC
 | o :: l, a, hd, h => by
  unfold dstsB at hd
  rw [Bool.and_eq_true] at hd
  obtain ⟨hd1, hd2⟩ := hd
  have hsz : ∀ v, (a.put o.dst v).tmps.size = a.tmps.size := fun v => by unfold Act.put; split <;> simp
  unfold wpC
  split
  · rename_i hw
    have h' : ∀ X, C X → ∃ v, (∀ W, (∃ p : Regrown, W = grow (redrawn X p.d) p.os) → o.quietAt P a (fun w' => ∃ p : Regrown, w' = grow (redrawn X p.d) p.os) W v) ∧ wpQuiet P ops (fun w' => ∃ p : Regrown, w' = grow (redrawn X p.d) p.os) (fun a' => a' = afin) l (a.put o.dst v) := fun X hX => by
     have := h X hX
     unfold wpQuiet at this
     rw [if_pos hw] at this
     exact this
    cases hdst : o.dst with
    | none => rw [hdst] at hd1; cases hd1
    | some d =>
     rw [hdst] at hd1 h'
     simp only [Bool.and_eq_true, decide_eq_true_eq, Bool.not_eq_true', List.any_eq_false, beq_iff_eq] at hd1
     have hval : ∀ X, C X → ∀ v, wpQuiet P ops (fun w' => ∃ p : Regrown, w' = grow (redrawn X p.d) p.os) (fun a' => a' = afin) l (a.put (some d) v) → some v = afin.tmps[d]? := fun X hX v hv => by
      rw [← quiet_slot l _ (fun o' ho' => hd1.2 o' ho') hv]
      show some v = (a.tmps.setIfInBounds d v)[d]?
      rw [Array.getElem?_setIfInBounds_self_of_lt hd1.1]
     obtain ⟨v0, _, hv0⟩ := h' w hC
     have hsame : ∀ X, C X → o.quietAt P a (fun w' => ∃ p : Regrown, w' = grow (redrawn X p.d) p.os) X v0 ∧ wpQuiet P ops (fun w' => ∃ p : Regrown, w' = grow (redrawn X p.d) p.os) (fun a' => a' = afin) l (a.put (some d) v0) := fun X hX => by
      obtain ⟨v, g1, g2⟩ := h' X hX
      have e := (hval X hX v g2).trans (hval w hC v0 hv0).symm
      injection e with e
      subst e
      exact ⟨g1 X ⟨⟨X.drawn, #[]⟩, by rw [grow_empty]; rfl⟩, g2⟩
     refine ⟨v0, fun X hX => quietUpon_mono (fun W hW => below_of_reg hW) (hsame X hX).1, ?_⟩
     exact wpC_of_quiet hC l _ (by rw [← hdst, hsz]; exact hd2) fun X hX => (hsame X hX).2
  · rename_i hw
    refine wpC_of_quiet hC l _ (by rw [hsz]; exact hd2) fun X hX => ?_
    have := h X hX
    unfold wpQuiet at this
    rw [if_neg hw] at this
    exact this
def pick : List Bool → List Oper → List Oper
 | true :: fs, _ :: l => pick fs l
 | false :: fs, o :: l => o :: pick fs l
 | _, _ => []
def isNd (fl : List Bool) (i : Nat) : Bool := (fl[i]?).getD false
theorem wpC_slot {C : World → Prop} {afin : Act} {t : Tmp} : ∀ (l : List Oper) (a : Act), (∀ o ∈ l, o.dst ≠ some t) → wpC P ops C (fun a' => a' = afin) l a → a.tmps[t]? = afin.tmps[t]? ∧ True
 | [], a, _, h => by rw [show a = afin from h]; exact ⟨rfl, trivial⟩
 | o :: l, a, hd, h => by
  unfold wpC at h
  split at h
  · obtain ⟨v, _, h2⟩ := h
    rw [← put_ne (hd o (by simp)) v]
    exact wpC_slot l _ (fun o ho => hd o (by simp [ho])) h2
  · rw [← put_ne (hd o (by simp)) undef]
    exact wpC_slot l _ (fun o ho => hd o (by simp [ho])) h
theorem wpC_rest {C : World → Prop} {afin : Act} : ∀ (l : List Oper) (a : Act), wpC P ops C (fun a' => a' = afin) l a → afin.tmps.size = a.tmps.size ∧ afin.defers = a.defers
 | [], a, h => by rw [show a = afin from h]; exact ⟨rfl, rfl⟩
 | o :: l, a, h => by
  unfold wpC at h
  split at h
  · obtain ⟨v, _, h2⟩ := h
    have := wpC_rest l _ h2
    rw [put_size, put_defers] at this
    exact this
  · have := wpC_rest l _ h
    rw [put_size, put_defers] at this
    exact this
def DetF (P : Program) (ops : Array Oper) (C : World → Prop) (G : Tmp → Option Value) (afin : Act) (o : Oper) : Prop :=
 ∃ (g : Act) (d : Tmp) (v : Value), (∀ t ∈ o.looksAt ops, g.tmps[t]? = G t) ∧ o.dst = some d ∧ afin.tmps[d]? = some v ∧ YieldsC P ops C o v g
def headB (ops : Array Oper) (fl : List Bool) (n N : Nat) : Bool :=
 (List.range n).all fun i => match ops[i]? with
  | none => false
  | some o =>
   (match o.dst with | some d => decide (d < N) && ((List.range n).all fun j => j == i || dstAt ops j != some d) | none => isNd fl i) &&
   o.after.all (fun e => !Region.binds .any e || decide (e.on < i)) &&
   (o.looksAt ops).all (fun t => (List.range n).all fun j => dstAt ops j != some t || (decide (j < i) && Region.waitsFor .any ops i j && (isNd fl i || !isNd fl j))) &&
   (!isNd fl i || o.guard.isNone)
def headG (ops : Array Oper) (fl : List Bool) (n N : Nat) : Bool :=
 (List.range n).all fun i => match ops[i]? with
  | none => false
  | some o =>
   (match o.dst with | some d => decide (d < N) && ((List.range n).all fun j => j == i || dstAt ops j != some d) | none => isNd fl i) &&
   o.after.all (fun e => !Region.binds .any e || decide (e.on < i)) &&
   (o.looksAt ops).all (fun t => (List.range n).all fun j => dstAt ops j != some t || (decide (j < i) && Region.waitsFor .any ops i j && (isNd fl i || !isNd fl j)))
theorem headB_G {ops : Array Oper} {fl : List Bool} {n N : Nat} (h : headB ops fl n N = true) : headG ops fl n N = true := by
 refine List.all_eq_true.2 fun i hi => ?_
 have h1 := List.all_eq_true.1 h i hi
 cases ho : ops[i]? with
 | none => rw [ho] at h1; exact h1
 | some o => rw [ho] at h1; exact (Bool.and_eq_true_iff.1 h1).1
theorem headB_gd {ops : Array Oper} {fl : List Bool} {n N : Nat} (h : headB ops fl n N = true) {i : Nat} {o : Oper} (hi : i < n) (hnd : isNd fl i = true) (ho : ops[i]? = some o) : o.guard = none := by
 have h1 := List.all_eq_true.1 h i (List.mem_range.2 hi)
 rw [ho] at h1
 have h2 := (Bool.and_eq_true_iff.1 h1).2
 rw [hnd] at h2
 simpa using h2
def waitsT (ops : Array Oper) : Nat → Nat → Nat → Bool
 | 0, _, _ => false
 | f + 1, k, j => Region.waitsFor .any ops k j || (List.range k).any fun i => Region.waitsFor .any ops k i && waitsT ops f i j
def headTrue (N n : Nat) : Array Bool := ((List.range N).map fun i => decide (i < n)).toArray
def ndsB (ops : Array Oper) (fl : List Bool) (n : Nat) : List Nat → List (Nat × List Nat) → Bool
 | _, [] => true
 | pre, (k, fr) :: rest => decide (k < n) && isNd fl k && fr.all (fun j => pre.contains j) && pre.all (fun j => decide (j < k) && (!fr.contains j || waitsT ops 4 k j)) && ndsB ops fl n (pre ++ [k]) rest
def flowB (ops : Array Oper) (fl : List Bool) (n N : Nat) (ks : List (Nat × List Nat)) : Bool :=
 Region.noSelect ops && decide (n < ops.size) && Region.sinkB .any ops n && Region.chainB .any ops n && Region.seqB .any ops (ops.size - n) n (headTrue ops.size n) &&
 headB ops fl n N && decide (fl.length = n) && ((List.range n).all fun i => !isNd fl i || (ks.map (·.1)).contains i) && ndsB ops fl n [] ks && ks.all (fun p => p.2.all fun j => decide (j < n))
theorem waitsT_listed {n : Nat} {listed : Array Bool} (inv : HeadInv .any ops n listed) : ∀ (f k j : Nat) (o : Oper), ops[k]? = some o → (∀ e ∈ o.after, Region.binds .any e = true → listed.getD e.on false = true) → waitsT ops f k j = true → listed.getD j false = true
 | 0, _, _, _, _, _, h => by simp [waitsT] at h
 | f + 1, k, j, o, ho, hall, h => by
  unfold waitsT at h
  rw [Bool.or_eq_true] at h
  have one : ∀ i, Region.waitsFor .any ops k i = true → listed.getD i false = true := fun i hi => by
   obtain ⟨o', ho', e, he, hb, hon⟩ := Region.waitsFor_spec hi
   have : o' = o := Option.some.inj (ho'.symm.trans ho)
   subst this
   rw [← hon]; exact hall e he hb
  rcases h with h | h
  · exact one j h
  · obtain ⟨i, _, hi2⟩ := List.any_eq_true.1 h
    rw [Bool.and_eq_true] at hi2
    have hli := one i hi2.1
    cases hoi : ops[i]? with
    | none =>
     have : i < listed.size := by
      rcases Nat.lt_or_ge i listed.size with h4 | h4
      · exact h4
      · simp [Array.getElem?_eq_none h4] at hli
     rw [inv.size] at this
     rw [Array.getElem?_eq_getElem this] at hoi
     cases hoi
    | some oi => exact waitsT_listed inv f i j oi hoi (fun e he hb => inv.closed i oi hoi hli e he hb) hi2.2
theorem ndsB_spec {fl : List Bool} {n : Nat} : ∀ (nds : List NdB) (pre0 : List Nat), ndsB ops fl n pre0 (nds.map fun d => (d.k, d.deps)) = true →
 ∀ pre d suf, nds = pre ++ d :: suf → d.k < n ∧ isNd fl d.k = true ∧ (∀ j ∈ pre0 ++ pre.map (·.k), j < d.k ∧ (j ∈ d.deps → waitsT ops 4 d.k j = true)) ∧ ∀ j ∈ d.deps, j ∈ pre0 ++ pre.map (·.k)
 | [], _, _, pre, d, suf, e => by simp at e
 | x :: rest, pre0, h, pre, d, suf, e => by
  simp only [List.map_cons, ndsB, Bool.and_eq_true, decide_eq_true_eq] at h
  obtain ⟨⟨⟨⟨h1, h2⟩, h2b⟩, h3⟩, h4⟩ := h
  cases pre with
  | nil =>
   simp only [List.nil_append, List.cons.injEq] at e
   obtain ⟨rfl, rfl⟩ := e
   refine ⟨h1, h2, fun j hj => ?_, fun j hj => by have := List.all_eq_true.1 h2b j hj; simpa using this⟩
   have := List.all_eq_true.1 h3 j (by simpa using hj)
   simp only [Bool.and_eq_true, decide_eq_true_eq, Bool.or_eq_true] at this
   exact ⟨this.1, fun hf => this.2.resolve_left (by rw [List.contains_iff_mem.2 hf]; decide)⟩
  | cons p pre =>
   simp only [List.cons_append, List.cons.injEq] at e
   obtain ⟨rfl, e⟩ := e
   obtain ⟨g1, g2, g3, g4⟩ := ndsB_spec rest (pre0 ++ [x.k]) h4 pre d suf e
   exact ⟨g1, g2, fun j hj => g3 j (by simpa using hj), fun j hj => by have := g4 j hj; simpa using this⟩
theorem count_set (n : Nat) (i : Nat) (listed : Array Bool) (hi : listed.getD i true = false) : ∀ m, ((List.range m).filter fun j => !(listed.setIfInBounds i true).getD j true).length + (if i < m then 1 else 0) = ((List.range m).filter fun j => !listed.getD j true).length
 | 0 => by simp
 | m + 1 => by
  have ih := count_set n i listed hi m
  have hlt : i < listed.size := by
   rcases Nat.lt_or_ge i listed.size with h' | h'
   · exact h'
   · simp [Array.getElem?_eq_none h'] at hi
  rw [List.range_succ, List.filter_append, List.filter_append, List.length_append, List.length_append, ← ih]
  by_cases e : i = m
  · subst e
    have h1 : (listed.setIfInBounds i true).getD i true = true := by simp [hlt]
    simp only [List.filter_cons, List.filter_nil, h1, hi]
    simp
  · have h2 : (if i < m + 1 then 1 else 0) = (if i < m then 1 else 0) := by
     by_cases h : i < m
     · rw [if_pos h, if_pos (by omega)]
     · rw [if_neg h, if_neg (by omega)]
    rw [h2]
    have h3 : (List.filter (fun j => !(listed.setIfInBounds i true).getD j true) [m]) = (List.filter (fun j => !listed.getD j true) [m]) := by
     simp only [List.filter_cons, List.filter_nil, getD_set_ne true e]
    rw [h3]
    omega
section
variable {n N : Nat} {fl : List Bool} {nds : List NdB} {a afin : Act} {Q : Exit → Act → World → Prop} {tail : List Oper} {C : World → Prop} {sts : List (Nat × (Nat → Option Obj → Prop))}
theorem det_all (hh : headG ops fl n N = true) (hN : N = a.tmps.size) (hfl : fl.length = n) (hn : n ≤ ops.size)
 (G : Tmp → Option Value) (hG1 : ∀ j t, j < n → isNd fl j = false → dstAt ops j = some t → G t = afin.tmps[t]?) (hG2 : ∀ t, (∀ j, j < n → isNd fl j = false → dstAt ops j ≠ some t) → G t = a.tmps[t]?) :
 ∀ (fs : List Bool) (l : List Oper) (i : Nat) (g : Act), i + fs.length = n → (∀ j, fs[j]? = fl[i + j]?) → (∀ j, l[j]? = ops[i + j]?) → g.tmps.size = a.tmps.size →
  (∀ t, (∃ j, j < i ∧ isNd fl j = false ∧ dstAt ops j = some t) → g.tmps[t]? = afin.tmps[t]?) → (∀ t, (∀ j, j < i → isNd fl j = false → dstAt ops j ≠ some t) → g.tmps[t]? = a.tmps[t]?) →
  wpC P ops C (fun a' => a' = afin) (pick fs l) g → ∀ j o, i ≤ j → j < n → isNd fl j = false → ops[j]? = some o → DetF P ops C G afin o
 | [], l, i, g, hi, _, _, _, _, _, _, j, o, hij, hjn, _, _ => by simp at hi; omega
 | f :: fs, [], i, g, hi, _, hl, _, _, _, _, j, o, hij, hjn, _, hj => by
  have := hl (j - i)
  rw [show i + (j - i) = j by omega, hj] at this
  simp at this
 | f :: fs, o0 :: l, i, g, hi, hfs, hl, hsz, h1, h2, h, j, o, hij, hjn, hjd, hj => by
  have hf : isNd fl i = f := by
   have := hfs 0
   rw [Nat.add_zero] at this
   unfold isNd; rw [← this]; rfl
  have ho0 : ops[i]? = some o0 := by have := hl 0; rw [Nat.add_zero] at this; rw [← this]; rfl
  have hin : i < n := by simp at hi; omega
  have hchk := List.all_eq_true.1 hh i (List.mem_range.2 hin)
  simp only [ho0, Bool.and_eq_true] at hchk
  obtain ⟨⟨c1, c2⟩, c3⟩ := hchk
  cases hd : o0.dst with
  | none =>
   rw [hd] at c1
   replace c1 : isNd fl i = true := c1
   obtain rfl : f = true := by rw [← hf, c1]
   have hji : j ≠ i := fun e => by rw [e, hf] at hjd; cases hjd
   refine det_all hh hN hfl hn G hG1 hG2 fs l (i + 1) g (by simp at hi ⊢; omega) (fun j => by have := hfs (j + 1); rw [show i + 1 + j = i + (j + 1) by omega, ← this]; rfl) (fun j => by have := hl (j + 1); rw [show i + 1 + j = i + (j + 1) by omega, ← this]; rfl) hsz ?_ ?_ h j o (by omega) hjn hjd hj
   · rintro t ⟨j', hj', hd', ht'⟩
     refine h1 t ⟨j', ?_, hd', ht'⟩
     rcases Nat.lt_or_ge j' i with h' | h'
     · exact h'
     · have : j' = i := by omega
       subst this; rw [hf] at hd'; cases hd'
   · intro t ht
     exact h2 t (fun j' hj' => ht j' (by omega))
  | some d =>
   rw [hd] at c1
   simp only [Bool.and_eq_true, decide_eq_true_eq] at c1
   obtain ⟨c1, c1b⟩ := c1
   have hdi : dstAt ops i = some d := by unfold dstAt; rw [ho0]; exact hd
   have huniq : ∀ j, j < n → j ≠ i → dstAt ops j ≠ some d := fun j hj hne e => by
    have := List.all_eq_true.1 c1b j (List.mem_range.2 hj)
    simp [hne, e] at this
   cases f with
   | true =>
    have hji : j ≠ i := fun e => by rw [e, hf] at hjd; cases hjd
    refine det_all hh hN hfl hn G hG1 hG2 fs l (i + 1) g (by simp at hi ⊢; omega) (fun j => by have := hfs (j + 1); rw [show i + 1 + j = i + (j + 1) by omega, ← this]; rfl) (fun j => by have := hl (j + 1); rw [show i + 1 + j = i + (j + 1) by omega, ← this]; rfl) hsz ?_ ?_ h j o (by omega) hjn hjd hj
    · rintro t ⟨j', hj', hd', ht'⟩
      refine h1 t ⟨j', ?_, hd', ht'⟩
      rcases Nat.lt_or_ge j' i with h' | h'
      · exact h'
      · have : j' = i := by omega
        subst this; rw [hf] at hd'; cases hd'
    · intro t ht
      exact h2 t (fun j' hj' => ht j' (by omega))
   | false =>
    have hpick : pick (false :: fs) (o0 :: l) = o0 :: pick fs l := rfl
    rw [hpick] at h
    have hlook : ∀ t ∈ o0.looksAt ops, g.tmps[t]? = G t := fun t ht => by
     have c3t := List.all_eq_true.1 c3 t ht
     by_cases hex : ∃ j', j' < n ∧ dstAt ops j' = some t
     · obtain ⟨j', hj'n, hj't⟩ := hex
       have := List.all_eq_true.1 c3t j' (List.mem_range.2 hj'n)
       simp only [hj't, bne_self_eq_false, Bool.false_or, Bool.and_eq_true, decide_eq_true_eq, hf, Bool.not_eq_true'] at this
       rw [h1 t ⟨j', this.1.1, this.2, hj't⟩, hG1 j' t hj'n this.2 hj't]
     · rw [h2 t (fun j' hj' hd' e => hex ⟨j', by omega, e⟩), hG2 t (fun j' hj' hd' e => hex ⟨j', hj', e⟩)]
    have step : ∀ v, wpC P ops C (fun a' => a' = afin) (pick fs l) (g.put o0.dst v) →
     afin.tmps[d]? = some v ∧ ∀ j o, i + 1 ≤ j → j < n → isNd fl j = false → ops[j]? = some o → DetF P ops C G afin o := fun v hv => by
     have hnot : ∀ o' ∈ pick fs l, o'.dst ≠ some d := by
      have aux : ∀ (fs : List Bool) (l : List Oper) (i' : Nat), i < i' → i' + fs.length = n → (∀ j, l[j]? = ops[i' + j]?) → ∀ o' ∈ pick fs l, o'.dst ≠ some d := by
       intro fs
       induction fs with
       | nil => intro l i' _ _ _ o' ho'; cases l <;> simp [pick] at ho'
       | cons b fs ih =>
        intro l i' hi' hlen hl' o' ho'
        cases l with
        | nil => cases b <;> simp [pick] at ho'
        | cons x l =>
         have hx : ops[i']? = some x := by have := hl' 0; rw [Nat.add_zero] at this; rw [← this]; rfl
         have hlen' : i' + 1 + fs.length = n := by simp at hlen; omega
         have hl'' : ∀ j, l[j]? = ops[i' + 1 + j]? := fun j => by have := hl' (j + 1); rw [show i' + 1 + j = i' + (j + 1) by omega, ← this]; rfl
         cases b with
         | true => exact ih l (i' + 1) (by omega) hlen' hl'' o' ho'
         | false =>
          rcases List.mem_cons.1 ho' with rfl | ho'
          · intro e
            exact huniq i' (by simp at hlen; omega) (by omega) (by unfold dstAt; rw [hx]; exact e)
          · exact ih l (i' + 1) (by omega) hlen' hl'' o' ho'
      exact aux fs l (i + 1) (by omega) (by simp at hi; omega) (fun j => by have := hl (j + 1); rw [show i + 1 + j = i + (j + 1) by omega, ← this]; rfl)
     have hfin : afin.tmps[d]? = some v := by
      rw [← (wpC_slot _ _ hnot hv).1, hd]
      exact put_eq (by rw [hsz, ← hN]; exact c1) v
     refine ⟨hfin, det_all hh hN hfl hn G hG1 hG2 fs l (i + 1) (g.put o0.dst v) (by simp at hi ⊢; omega) (fun j => by have := hfs (j + 1); rw [show i + 1 + j = i + (j + 1) by omega, ← this]; rfl) (fun j => by have := hl (j + 1); rw [show i + 1 + j = i + (j + 1) by omega, ← this]; rfl)
      (by rw [put_size]; exact hsz) ?_ ?_ hv⟩
     · rintro t ⟨j', hj', hd', ht'⟩
       by_cases hji : j' = i
       · subst hji
         rw [hdi] at ht'
         injection ht' with ht'
         subst ht'
         rw [hd, put_eq (by rw [hsz, ← hN]; exact c1) v, hfin]
       · have htd : d ≠ t := fun e => huniq j' (by omega) hji (by rw [ht', e])
         rw [put_ne (by rw [hd]; intro e; exact htd (Option.some.inj e)) v]
         exact h1 t ⟨j', by omega, hd', ht'⟩
     · intro t ht
       have htd : d ≠ t := fun e => ht i (by omega) hf (by rw [hdi, e])
       rw [put_ne (by rw [hd]; intro e; exact htd (Option.some.inj e)) v]
       exact h2 t (fun j' hj' => ht j' (by omega))
    unfold wpC at h
    by_cases hw : Region.wanted o0 (yielded ops g.tmps) = true
    · rw [if_pos hw] at h
      obtain ⟨v, hv1, hv2⟩ := h
      obtain ⟨s1, s2⟩ := step v hv2
      by_cases hji : j = i
      · subst hji
        obtain rfl : o0 = o := Option.some.inj (ho0.symm.trans hj)
        exact ⟨g, d, v, hlook, hd, s1, .inl ⟨hw, hv1⟩⟩
      · exact s2 j o (by omega) hjn hjd hj
    · rw [if_neg hw] at h
      obtain ⟨s1, s2⟩ := step undef h
      by_cases hji : j = i
      · subst hji
        obtain rfl : o0 = o := Option.some.inj (ho0.symm.trans hj)
        exact ⟨g, d, undef, hlook, hd, s1, .inr ⟨by simpa using hw, rfl⟩⟩
      · exact s2 j o (by omega) hjn hjd hj
theorem getD_true_of {listed : Array Bool} {i : Nat} (hi : i < listed.size) (h : listed.getD i true ≠ false) : listed.getD i false = true := by
 simp [hi] at h ⊢; exact h
theorem getD_set_self {listed : Array Bool} {i : Nat} (hi : i < listed.size) (d : Bool) : (listed.setIfInBounds i true).getD i d = true := by simp [hi]
end
abbrev StK := Nat × (Nat → Option Obj → Prop) × (World → World → Prop)
section
variable {n N : Nat} {fl : List Bool} {nds : List NdB} {a afin : Act} {Q : Exit → Act → World → Prop} {tail : List Oper} {C : World → Prop} {sts : List StK}
def EffK (sts : List StK) (k : Nat) (X X' : World) : Prop := Below X.heap.size X X' ∨ ∃ p ∈ sts, p.1 = k ∧ Grw p.2.1 X X' ∧ p.2.2 X X'
def LeavesK (P : Program) (sts : List StK) (k : Nat) (R : Value → World → Prop) (X : World) : Result Next → Prop
 | .ok (.value u) X' => EffK sts k X X' ∧ R u X'
 | .ok .skip X' => EffK sts k X X' ∧ R undef X'
 | .ok (.enter f args) X' => X' = X ∧ Calls P f args X (fun e X'' => ∃ v, e = .returned v ∧ EffK sts k X X'' ∧ R v X'')
 | _ => False
def OallK (sts : List StK) (b : Nat) (o : Option Obj) : Prop := ∃ p ∈ sts, p.2.1 b o
def OothK (sts : List StK) (k : Nat) (b : Nat) (o : Option Obj) : Prop := ∃ p ∈ sts, p.1 ≠ k ∧ p.2.1 b o
def flowBK (ops : Array Oper) (fl : List Bool) (n N : Nat) (ks : List (Nat × List Nat)) : Bool :=
 Region.noSelect ops && (n == ops.size || (decide (n < ops.size) && Region.sinkB .any ops n && Region.chainB .any ops n)) && Region.seqB .any ops (ops.size - n) n (headTrue ops.size n) &&
 headB ops fl n N && decide (fl.length = n) && ((List.range n).all fun i => !isNd fl i || (ks.map (·.1)).contains i) && ndsB ops fl n [] ks && ks.all (fun p => p.2.all fun j => decide (j < n))
def flowBG (ops : Array Oper) (fl : List Bool) (n N : Nat) (ks : List (Nat × List Nat)) : Bool :=
 Region.noSelect ops && (n == ops.size || (decide (n < ops.size) && Region.sinkB .any ops n && Region.chainB .any ops n)) && Region.seqB .any ops (ops.size - n) n (headTrue ops.size n) &&
 headG ops fl n N && decide (fl.length = n) && ((List.range n).all fun i => !isNd fl i || (ks.map (·.1)).contains i) && ndsB ops fl n [] ks && ks.all (fun p => p.2.all fun j => decide (j < n))
theorem flowBK_G {ops : Array Oper} {fl : List Bool} {n N : Nat} {ks : List (Nat × List Nat)} (h : flowBK ops fl n N ks = true) : flowBG ops fl n N ks = true ∧ headB ops fl n N = true := by
 unfold flowBK at h
 unfold flowBG
 simp only [Bool.and_eq_true] at h ⊢
 obtain ⟨⟨⟨⟨⟨h1, h2⟩, h3⟩, h4⟩, h5⟩, h6⟩ := h
 exact ⟨⟨⟨⟨⟨⟨h1, headB_G h2⟩, h3⟩, h4⟩, h5⟩, h6⟩, h2⟩
def wantedN (ops : Array Oper) : List NdB → Act → Prop
 | [], _ => True
 | d :: rest, g => (∀ o, ops[d.k]? = some o → Region.wanted o (yielded ops g.tmps) = true) ∧ ∀ v, wantedN ops rest (g.put (dstAt ops d.k) v)
theorem wantedN_at {ops : Array Oper} : ∀ (nds : List NdB) (g : Act), wantedN ops nds g → ∀ (vals : Nat → Value) pre d suf, nds = pre ++ d :: suf → ∀ o, ops[d.k]? = some o → Region.wanted o (yielded ops (putAll ops vals pre g).tmps) = true
 | [], g, _, vals, pre, d, suf, e => by simp at e
 | x :: rest, g, ⟨h1, h2⟩, vals, pre, d, suf, e => by
  cases pre with
  | nil =>
   simp only [List.nil_append, List.cons.injEq] at e
   obtain ⟨rfl, rfl⟩ := e
   exact h1
  | cons p pre =>
   simp only [List.cons_append, List.cons.injEq] at e
   obtain ⟨rfl, e⟩ := e
   exact wantedN_at rest _ (h2 (vals x.k)) vals pre d suf e
theorem wantedN_none {ops : Array Oper} : ∀ (nds : List NdB) (g : Act), (∀ d ∈ nds, ∀ o, ops[d.k]? = some o → o.guard = none) → wantedN ops nds g
 | [], g, _ => trivial
 | x :: rest, g, h => ⟨fun o ho => by unfold Region.wanted; rw [h x (List.mem_cons_self ..) o ho], fun v => wantedN_none rest _ (fun d hd => h d (List.mem_cons_of_mem _ hd))⟩
theorem flowBK_n {ops : Array Oper} {n : Nat} (h : (n == ops.size || (decide (n < ops.size) && Region.sinkB .any ops n && Region.chainB .any ops n)) = true) : n = ops.size ∨ (n < ops.size ∧ Region.sinkB .any ops n = true ∧ Region.chainB .any ops n = true) := by
 rw [Bool.or_eq_true, beq_iff_eq, Bool.and_eq_true, Bool.and_eq_true, decide_eq_true_eq] at h
 rcases h with h | ⟨⟨h1, h2⟩, h3⟩
 · exact .inl h
 · exact .inr ⟨h1, h2, h3⟩
def wpNK (P : Program) (ops : Array Oper) (sts : List StK) (w : World) (Q : Exit → Act → World → Prop) (tail : List Oper) : List NdB → Act → List (Nat × (World → Prop)) → Prop
 | [], g, Φ => ∀ X, Grw (OallK sts) w X → DistB ops (Φ.map (·.1)) g → toldAll Φ X → wpList P ops Q tail g X
 | d :: rest, g, Φ => ((∀ v X X', d.R g v X → Below X.heap.size X X' → d.R g v X') ∧ (∀ p ∈ sts, p.1 ≠ d.k → p.1 ∉ d.deps → ∀ v X X', d.R g v X → Grw p.2.1 X X' ∧ p.2.2 X X' → d.R g v X') ∧
  (∀ g' v X, (∀ j ∈ d.deps, ∀ t, dstAt ops j = some t → g'.tmps[t]? = g.tmps[t]?) → d.R g v X → d.R g' v X)) ∧
  (∀ o, ops[d.k]? = some o → ∀ X, Grw (OothK sts d.k) w X → ((∀ p ∈ sts, waitsT ops 4 p.1 d.k = true) → Grw (fun _ _ => False) w X) → told d.deps Φ X → LeavesK P sts d.k (d.R g) X ((execOp g.eval o).run P X)) ∧
  ∀ v, wpNK P ops sts w Q tail rest (g.put (dstAt ops d.k) v) ((d.k, d.R g v) :: Φ)
theorem wpNK_unroll {sts : List StK} {Q : Exit → Act → World → Prop} {tail : List Oper} : ∀ (nds : List NdB) (g : Act) (Φ : List (Nat × (World → Prop))), wpNK P ops sts w Q tail nds g Φ → ∀ vals : Nat → Value,
 (∀ pre d suf, nds = pre ++ d :: suf → ((∀ v X X', d.R (putAll ops vals pre g) v X → Below X.heap.size X X' → d.R (putAll ops vals pre g) v X') ∧ (∀ p ∈ sts, p.1 ≠ d.k → p.1 ∉ d.deps → ∀ v X X', d.R (putAll ops vals pre g) v X → Grw p.2.1 X X' ∧ p.2.2 X X' → d.R (putAll ops vals pre g) v X') ∧
  (∀ g' v X, (∀ j ∈ d.deps, ∀ t, dstAt ops j = some t → g'.tmps[t]? = (putAll ops vals pre g).tmps[t]?) → d.R (putAll ops vals pre g) v X → d.R g' v X)) ∧
  ∀ o, ops[d.k]? = some o → ∀ X, Grw (OothK sts d.k) w X → ((∀ p ∈ sts, waitsT ops 4 p.1 d.k = true) → Grw (fun _ _ => False) w X) → told d.deps Φ X → (∀ p2 e s2, pre = p2 ++ e :: s2 → e.k ∈ d.deps → e.R (putAll ops vals p2 g) (vals e.k) X) →
  LeavesK P sts d.k (d.R (putAll ops vals pre g)) X ((execOp (putAll ops vals pre g).eval o).run P X)) ∧
 (∀ X, Grw (OallK sts) w X → DistB ops (nds.map (·.k) ++ Φ.map (·.1)) (putAll ops vals nds g) → toldAll Φ X → (∀ p2 e s2, nds = p2 ++ e :: s2 → e.R (putAll ops vals p2 g) (vals e.k) X) → wpList P ops Q tail (putAll ops vals nds g) X)
 | [], g, Φ, h, vals => ⟨fun pre d suf e => by simp at e, fun X hX hD hΦ _ => h X hX hD hΦ⟩
 | d :: rest, g, Φ, ⟨h1, h2, h3⟩, vals => by
  obtain ⟨i1, i2⟩ := wpNK_unroll rest _ _ (h3 (vals d.k)) vals
  refine ⟨fun pre d' suf e => ?_, fun X hX hD hΦ hR => i2 X hX (hD.mono fun k hk => by simp only [List.map_cons, List.mem_append, List.mem_cons, List.cons_append] at hk ⊢; rcases hk with h | h | h <;> simp [h]) ⟨hR [] d rest rfl, hΦ⟩ (fun p2 e s2 he => hR (d :: p2) e s2 (by rw [he]; rfl))⟩
  cases pre with
  | nil =>
   simp only [List.nil_append, List.cons.injEq] at e
   obtain ⟨rfl, rfl⟩ := e
   exact ⟨h1, fun o ho X hX hE hf _ => h2 o ho X hX hE hf⟩
  | cons p pre =>
   simp only [List.cons_append, List.cons.injEq] at e
   obtain ⟨rfl, e⟩ := e
   obtain ⟨j1, j2⟩ := i1 pre d' suf e
   refine ⟨j1, fun o ho X hX hE hf hR => j2 o ho X hX hE ?_ (fun p2 x s2 hx hd => hR (d :: p2) x s2 (by rw [hx]; rfl) hd)⟩
   unfold told
   split
   · rename_i hc
     exact ⟨hR [] d pre rfl (List.contains_iff_mem.1 hc), hf⟩
   · exact hf
structure FlowInvK (ops : Array Oper) (sts : List StK) (w : World) (fl : List Bool) (n : Nat) (nds : List NdB) (a afin : Act) (listed : Array Bool) (b : Act) (X : World) (vals : Nat → Value) : Prop where
 below : Grw (OallK sts) w X
 head : HeadInv .any ops n listed
 size : b.tmps.size = a.tmps.size
 defers : b.defers = a.defers
 done : ∀ i d, i < n → dstAt ops i = some d → listed.getD i false = true → b.tmps[d]? = if isNd fl i = true then some (vals i) else afin.tmps[d]?
 rest : ∀ t, (∀ i, i < n → dstAt ops i = some t → listed.getD i true = false) → b.tmps[t]? = a.tmps[t]?
 facts : ∀ pre d suf, nds = pre ++ d :: suf → listed.getD d.k false = true → d.R (putAll ops vals pre afin) (vals d.k) X
 calm : ∀ k, listed.getD k false = false → Grw (OothK sts k) w X
 calm0 : (∀ p ∈ sts, listed.getD p.1 false = false) → Grw (fun _ _ => False) w X
 al : ∀ i o, ops[i]? = some o → isAl o = true → isNd fl i = true → listed.getD i false = true → ∃ b, vals i = .pointer (some ⟨b, 0, none⟩) ∧ b < X.heap.size
 ne : ∀ i j oi oj, i ≠ j → ops[i]? = some oi → ops[j]? = some oj → isAl oi = true → isAl oj = true → isNd fl i = true → isNd fl j = true → listed.getD i false = true → listed.getD j false = true → vals i ≠ vals j
theorem FlowInvK.step {listed : Array Bool} {b : Act} {X : World} {vals : Nat → Value} (h : FlowInvK ops sts w fl n nds a afin listed b X vals) {i : Nat} {o : Oper} {v : Value} {X' : World}
 (hi : i ∈ Region.ready .any ops listed) (hin : i < n) (ho : ops[i]? = some o) (hdst : ∀ d, o.dst = some d → d < a.tmps.size ∧ ∀ j, j < n → j ≠ i → dstAt ops j ≠ some d)
 (hX : EffK sts i X X') (hst : ∀ pre e suf, nds = pre ++ e :: suf → e.k ≠ i → listed.getD e.k false = true → ∀ vals v, e.R (putAll ops vals pre afin) v X → e.R (putAll ops vals pre afin) v X')
 (hdep : ∀ pre e suf, nds = pre ++ e :: suf → (∀ vals vals' v X, (∀ x ∈ pre, x.k ∈ e.deps → vals x.k = vals' x.k) → e.R (putAll ops vals pre afin) v X → e.R (putAll ops vals' pre afin) v X) ∧ (listed.getD e.k false = true → ∀ x ∈ pre, x.k ∈ e.deps → listed.getD x.k false = true))
 (hv : ∀ d, o.dst = some d → isNd fl i = false → afin.tmps[d]? = some v) (hR : ∀ pre e suf, nds = pre ++ e :: suf → e.k = i → e.R (putAll ops vals pre afin) v X') (hpre : ∀ pre e suf, nds = pre ++ e :: suf → e.k = i → ∀ x ∈ pre, x.k ≠ i)
 (hal : isNd fl i = true → isAl o = true → v = .pointer (some ⟨X.heap.size, 0, none⟩) ∧ X.heap.size < X'.heap.size) :
 FlowInvK ops sts w fl n nds a afin (listed.setIfInBounds i true) (b.put o.dst v) X' (fun j => if j = i then v else vals j) := by
 have hdi : dstAt ops i = o.dst := by unfold dstAt; rw [ho]; rfl
 have his : i < listed.size := by rw [h.head.size]; exact (Array.getElem?_eq_some_iff.1 ho).1
 have hXa : Grw (OallK sts) X X' := by
  rcases hX with h | ⟨p, hp, _, h⟩
  · exact Grw.of_below h
  · exact h.1.weaken (fun x o ho => ⟨p, hp, ho⟩)
 refine ⟨h.below.trans hXa, h.head.set hi hin, by rw [put_size]; exact h.size, by rw [put_defers]; exact h.defers, ?_, ?_, ?_, ?_, ?_, ?_, ?_⟩
 · intro j e hj he hl
   by_cases hji : j = i
   · subst hji
     rw [hdi] at he
     rw [he, put_eq (by rw [h.size]; exact (hdst e he).1) v]
     cases hnd : isNd fl j with
     | true => simp
     | false => rw [if_neg (by decide)]; exact (hv e he hnd).symm
   · rw [getD_set_ne false (Ne.symm hji)] at hl
     have hne : o.dst ≠ some e := fun e2 => (hdst e e2).2 j hj hji he
     rw [put_ne hne v, h.done j e hj he hl, if_neg (c := j = i) hji]
 · intro t ht
   have hne : o.dst ≠ some t := fun e => by
    have := ht i hin (by rw [hdi, e])
    rw [getD_set_self his] at this
    cases this
   rw [put_ne hne v]
   refine h.rest t fun j hj hjt => ?_
   have := ht j hj hjt
   by_cases hji : i = j
   · subst hji; rw [hdi] at hjt; exact absurd hjt hne
   · rw [getD_set_ne true hji] at this; exact this
 · intro pre e suf he hl
   by_cases hek : e.k = i
   · show e.R _ (if e.k = i then v else vals e.k) X'
     rw [if_pos hek, ← putAll_congr vals (fun j => if j = i then v else vals j) pre afin (fun x hx => (if_neg (hpre pre e suf he hek x hx)).symm)]
     exact hR pre e suf he hek
   · show e.R _ (if e.k = i then v else vals e.k) X'
     rw [if_neg hek]
     rw [getD_set_ne false (Ne.symm hek)] at hl
     have h1 := hst pre e suf he hek hl vals _ (h.facts pre e suf he hl)
     obtain ⟨hf1, hf2⟩ := hdep pre e suf he
     refine hf1 vals _ _ _ (fun x hx hxd => ?_) h1
     have h2 := hf2 hl x hx hxd
     have hne : x.k ≠ i := fun e => by
      rw [e] at h2
      have := (mem_ready.1 hi).1
      rw [getD_both this] at h2; cases h2
     exact (if_neg hne).symm
 · intro k hk
   have hki : k ≠ i := fun e => by rw [e, getD_set_self his] at hk; cases hk
   rw [getD_set_ne false (Ne.symm hki)] at hk
   refine (h.calm k hk).trans ?_
   rcases hX with h | ⟨p, hp, hpi, h⟩
   · exact Grw.of_below h
   · exact h.1.weaken (fun x o ho => ⟨p, hp, by rw [hpi]; exact Ne.symm hki, ho⟩)
 · intro h0
   have hne : ∀ p ∈ sts, p.1 ≠ i := fun p hp e => by
    have := h0 p hp
    rw [e, getD_set_self his] at this; cases this
   refine (h.calm0 fun p hp => ?_).trans ?_
   · have := h0 p hp
     rwa [getD_set_ne false (Ne.symm (hne p hp))] at this
   · rcases hX with h | ⟨p, hp, hpi, _⟩
     · exact Grw.of_below h
     · exact absurd hpi (hne p hp)
 · intro m om hm hma hmn hl
   by_cases hmi : m = i
   · subst hmi
     obtain rfl : om = o := Option.some.inj (hm.symm.trans ho)
     obtain ⟨e1, e2⟩ := hal hmn hma
     exact ⟨X.heap.size, (if_pos rfl).trans e1, e2⟩
   · rw [getD_set_ne false (Ne.symm hmi)] at hl
     obtain ⟨b0, e1, e2⟩ := h.al m om hm hma hmn hl
     exact ⟨b0, (if_neg (c := m = i) hmi).trans e1, Nat.lt_of_lt_of_le e2 hXa.size⟩
 · intro m q om oq hmq hm hq hma hqa hmn hqn hlm hlq
   have old : ∀ k ok, k ≠ i → ops[k]? = some ok → isAl ok = true → isNd fl k = true → (listed.setIfInBounds i true).getD k false = true → isNd fl i = true → isAl o = true → v ≠ vals k := fun k ok hki hk hka hkn hlk hin2 hio e => by
    rw [getD_set_ne false (Ne.symm hki)] at hlk
    obtain ⟨b0, e1, e2⟩ := h.al k ok hk hka hkn hlk
    obtain ⟨e3, _⟩ := hal hin2 hio
    rw [e3, e1] at e
    injection e with e; injection e with e; injection e with e
    omega
   show (if m = i then v else vals m) ≠ (if q = i then v else vals q)
   by_cases hmi : m = i
   · have hqi : q ≠ i := fun e => hmq (hmi.trans e.symm)
     rw [if_pos hmi, if_neg hqi]
     have hom : om = o := Option.some.inj (hm.symm.trans (by rw [hmi]; exact ho))
     exact old q oq hqi hq hqa hqn hlq (hmi ▸ hmn) (hom ▸ hma)
   · rw [if_neg hmi]
     by_cases hqi : q = i
     · rw [if_pos hqi]
       have hoq : oq = o := Option.some.inj (hq.symm.trans (by rw [hqi]; exact ho))
       exact Ne.symm (old m om hmi hm hma hmn hlm (hqi ▸ hqn) (hoq ▸ hqa))
     · rw [if_neg hqi]
       rw [getD_set_ne false (Ne.symm hmi)] at hlm
       rw [getD_set_ne false (Ne.symm hqi)] at hlq
       exact h.ne m q om oq hmq hm hq hma hqa hmn hqn hlm hlq
theorem flow_anyK (hB : flowBG ops fl n N (nds.map fun d => (d.k, d.deps)) = true) (hN : N = a.tmps.size) (htl : ∀ j, tail[j]? = ops[n + j]?) (htn : tail.length = ops.size - n)
 (hrest : afin.tmps.size = a.tmps.size ∧ afin.defers = a.defers) (hslot : ∀ t, (∀ j, j < n → isNd fl j = false → dstAt ops j ≠ some t) → afin.tmps[t]? = a.tmps[t]?)
 (hdet : ∀ j o, j < n → isNd fl j = false → ops[j]? = some o → DetF P ops (Grw (OallK sts) w) (fun t => if (∃ j, j < n ∧ isNd fl j = false ∧ dstAt ops j = some t) then afin.tmps[t]? else a.tmps[t]?) afin o)
 (hnd : wpNK P ops sts w Q tail nds afin []) (hW : wantedN ops nds afin) :
 ∀ (f : Nat) (listed : Array Bool) (b : Act) (X : World) (vals : Nat → Value), ((List.range n).filter fun j => !listed.getD j true).length = f → FlowInvK ops sts w fl n nds a afin listed b X vals → wpAny P .any ops Q (f + (ops.size - n)) listed b X := by
 unfold flowBG at hB
 rw [Bool.and_eq_true, Bool.and_eq_true, Bool.and_eq_true, Bool.and_eq_true, Bool.and_eq_true, Bool.and_eq_true, Bool.and_eq_true, decide_eq_true_eq] at hB
 obtain ⟨⟨⟨⟨⟨⟨⟨hsel, hnsc⟩, hseq⟩, hh⟩, hfl⟩, hks⟩, hndB⟩, hdB0⟩ := hB
 have hnn := flowBK_n hnsc
 have hdB : ∀ e ∈ nds, ∀ j ∈ e.deps, j < n := fun e he j hj => by
  have := List.all_eq_true.1 (List.all_eq_true.1 hdB0 (e.k, e.deps) (List.mem_map.2 ⟨e, he, rfl⟩)) j hj
  simpa using this
 have hspec := ndsB_spec nds [] hndB
 have hstab : ∀ pre e suf, nds = pre ++ e :: suf → ∀ vals, ((∀ v X X', e.R (putAll ops vals pre afin) v X → Below X.heap.size X X' → e.R (putAll ops vals pre afin) v X') ∧ (∀ p ∈ sts, p.1 ≠ e.k → p.1 ∉ e.deps → ∀ v X X', e.R (putAll ops vals pre afin) v X → Grw p.2.1 X X' ∧ p.2.2 X X' → e.R (putAll ops vals pre afin) v X') ∧ (∀ g' v X, (∀ j ∈ e.deps, ∀ t, dstAt ops j = some t → g'.tmps[t]? = (putAll ops vals pre afin).tmps[t]?) → e.R (putAll ops vals pre afin) v X → e.R g' v X)) := fun pre e suf hps vals =>
  ((wpNK_unroll nds afin _ hnd vals).1 pre e suf hps).1
 have hlt : ∀ e ∈ nds, e.k < n := fun e he => by
  obtain ⟨pre, suf, hps⟩ := List.append_of_mem he
  exact (hspec pre e suf hps).1
 have hchk : ∀ i, i < n → ∃ o, ops[i]? = some o ∧ (∀ d, o.dst = some d → d < a.tmps.size ∧ (∀ j, j < n → j ≠ i → dstAt ops j ≠ some d)) ∧ (∀ e ∈ o.after, Region.binds .any e = true → e.on < i) ∧
  (∀ t ∈ o.looksAt ops, ∀ j, j < n → dstAt ops j = some t → j < i ∧ Region.waitsFor .any ops i j = true ∧ (isNd fl i = false → isNd fl j = false)) := fun i hi => by
  have h1 := List.all_eq_true.1 hh i (List.mem_range.2 hi)
  cases ho : ops[i]? with
  | none => rw [ho] at h1; cases h1
  | some o =>
   rw [ho] at h1
   simp only [Bool.and_eq_true] at h1
   obtain ⟨⟨c1, c2⟩, c3⟩ := h1
   · refine ⟨o, rfl, fun d hd => ?_, fun e he hb => ?_, fun t ht j hj hjt => ?_⟩
     · rw [hd] at c1
       simp only [Bool.and_eq_true, decide_eq_true_eq] at c1
       refine ⟨by rw [← hN]; exact c1.1, fun j hj hne e => ?_⟩
       have := List.all_eq_true.1 c1.2 j (List.mem_range.2 hj)
       simp [hne, e] at this
     · have := Array.all_eq_true_iff_forall_mem.1 c2 e he
       simpa [hb] using this
     · have := List.all_eq_true.1 (List.all_eq_true.1 c3 t ht) j (List.mem_range.2 hj)
       simp only [hjt, bne_self_eq_false, Bool.false_or, Bool.and_eq_true, decide_eq_true_eq, Bool.or_eq_true, Bool.not_eq_true'] at this
       exact ⟨this.1.1, this.1.2, fun hni => this.2.resolve_left (by rw [hni]; decide)⟩
 intro f
 induction f with
 | zero =>
  intro listed b X vals hcnt inv
  have hall : ∀ i, i < n → listed.getD i true = true := fun i hi => by
   cases hl : listed.getD i true with
   | true => rfl
   | false =>
    have : i ∈ (List.range n).filter fun j => !listed.getD j true := List.mem_filter.2 ⟨List.mem_range.2 hi, by rw [hl]; rfl⟩
    rw [List.length_eq_zero_iff.1 hcnt] at this
    cases this
  have hall' : ∀ i, i < n → listed.getD i false = true := fun i hi => getD_true_of (by rw [inv.head.size]; omega) (by rw [hall i hi]; decide)
  have hli : listed = headTrue ops.size n := by
   apply Array.ext
   · rw [inv.head.size]; simp [headTrue]
   · intro i h1 h2
     have e2 : (headTrue ops.size n)[i] = decide (i < n) := by simp [headTrue]
     rw [e2]
     by_cases hi : i < n
     · have := hall i hi
       simp [h1] at this
       rw [this]; simp [hi]
     · have := inv.head.tail i (by omega) (by rw [← inv.head.size]; exact h1)
       simp [h1] at this
       rw [this]; simp [hi]
  have hb : b = putAll ops vals nds afin := by
   obtain ⟨s1, s2⟩ := putAll_size (ops := ops) vals nds afin
   have ht : b.tmps = (putAll ops vals nds afin).tmps := by
    apply Array.ext_getElem?
    intro t
    by_cases hex : ∃ j, j < n ∧ dstAt ops j = some t
    · obtain ⟨j, hj, hjt⟩ := hex
      obtain ⟨o, ho, hdst, _⟩ := hchk j hj
      have hdj : o.dst = some t := by
       have : dstAt ops j = o.dst := by unfold dstAt; rw [ho]; rfl
       rw [← this]; exact hjt
      obtain ⟨hdN, huniq⟩ := hdst t hdj
      obtain ⟨d, rfl⟩ : ∃ d, d = t := ⟨t, rfl⟩
      rw [inv.done j d hj hjt (hall' j hj)]
      have hu : ∀ e ∈ nds, dstAt ops e.k = some d → e.k = j := fun e he hed => by
       rcases Nat.decEq e.k j with hne | heq
       · exact absurd hed (huniq e.k (hlt e he) hne)
       · exact heq
      cases hndj : isNd fl j with
      | true =>
       rw [if_pos rfl]
       have hmem := List.all_eq_true.1 hks j (List.mem_range.2 hj)
       rw [hndj] at hmem
       simp only [Bool.not_true, Bool.false_or, List.contains_iff_mem, List.map_map] at hmem
       obtain ⟨e, he, hek⟩ := List.mem_map.1 hmem
       rw [putAll_eq vals d j nds afin (by rw [hrest.1]; exact hdN) ⟨e, he, hek⟩ hjt hu]
      | false =>
       rw [if_neg (by decide), putAll_ne vals d nds afin (fun e he hed => by
        have := hu e he hed
        obtain ⟨pre, suf, hps⟩ := List.append_of_mem he
        have h5 := (hspec pre e suf hps).2.1
        rw [this, hndj] at h5; cases h5)]
    · rw [inv.rest t (fun j hj hjt => absurd ⟨j, hj, hjt⟩ hex), putAll_ne vals t nds afin (fun e he hed => hex ⟨e.k, hlt e he, hed⟩), hslot t (fun j hj _ hjt => hex ⟨j, hj, hjt⟩)]
   have hdf : b.defers = (putAll ops vals nds afin).defers := by rw [inv.defers, s2, hrest.2]
   cases b with
   | mk bt bd => cases hp : putAll ops vals nds afin with
    | mk pt pd => rw [hp] at ht hdf; simp at ht hdf; rw [ht, hdf]
  rw [hli, hb, Nat.zero_add, ← htn]
  refine wpAny_of_seq tail n _ _ X htl (by rw [htn]; exact hseq) ?_
  refine (wpNK_unroll nds afin _ hnd vals).2 X inv.below (fun i hi j hj hij oi oj s t hoi hoj hai haj hs ht => ?_) trivial (fun p2 e s2 he => inv.facts p2 e s2 he (hall' e.k (hlt e (by rw [he]; simp))))
  have hk : ∀ k ∈ (nds.map (·.k) ++ ([] : List (Nat × (World → Prop))).map (·.1)), k < n ∧ isNd fl k = true := fun k hk => by
   simp only [List.map_nil, List.append_nil, List.mem_map] at hk
   obtain ⟨e, he, rfl⟩ := hk
   obtain ⟨pre, suf, hps⟩ := List.append_of_mem he
   exact ⟨(hspec pre e suf hps).1, (hspec pre e suf hps).2.1⟩
  obtain ⟨hi1, hi2⟩ := hk i hi
  obtain ⟨hj1, hj2⟩ := hk j hj
  have e1 := inv.done i s hi1 (by unfold dstAt; rw [hoi]; exact hs) (hall' i hi1)
  have e2 := inv.done j t hj1 (by unfold dstAt; rw [hoj]; exact ht) (hall' j hj1)
  rw [if_pos hi2] at e1
  rw [if_pos hj2] at e2
  rw [← hb, e1, e2]
  exact fun e => inv.ne i j oi oj hij hoi hoj hai haj hi2 hj2 (hall' i hi1) (hall' j hj1) (Option.some.inj e)
 | succ f ih =>
  intro listed b X vals hcnt inv
  have hex : ∃ i, i < n ∧ listed.getD i true = false := by
   cases hl : (List.range n).filter fun j => !listed.getD j true with
   | nil => rw [hl] at hcnt; simp at hcnt
   | cons i _ =>
    have : i ∈ (List.range n).filter fun j => !listed.getD j true := by rw [hl]; simp
    obtain ⟨h1, h2⟩ := List.mem_filter.1 this
    exact ⟨i, List.mem_range.1 h1, by simpa using h2⟩
  have hready : ∃ i, i ∈ Region.ready .any ops listed := by
   obtain ⟨i, hin, hun⟩ := hex
   have aux : ∀ m, m < n → listed.getD m true = false → ∃ i, i ∈ Region.ready .any ops listed := by
    intro m
    induction m using Nat.strongRecOn with
    | _ m ihm =>
     intro hm hun
     obtain ⟨o, ho, _, haf, _⟩ := hchk m hm
     by_cases hall : ∀ e ∈ o.after, Region.binds .any e = true → listed.getD e.on false = true
     · exact ⟨m, mem_ready.2 ⟨hun, o, ho, hall⟩⟩
     · obtain ⟨e, he⟩ := Classical.not_forall.1 hall
       obtain ⟨he1, he2⟩ := Classical.not_imp.1 he
       obtain ⟨hb, he3⟩ := Classical.not_imp.1 he2
       have hlt := haf e he1 hb
       refine ihm e.on hlt (by omega) (getD_in (by rw [inv.head.size]; omega) (by simpa using he3))
   exact aux i hin hun
  obtain ⟨i0, hi0n, hi0u⟩ := hex
  rw [Nat.succ_add]
  refine ⟨fun h0 => (by obtain ⟨i, hi⟩ := hready; rw [h0] at hi; cases hi), fun i hi => ?_⟩
  have hin : i < n := by
   rcases hnn with hnn | ⟨hn, hs, hc⟩
   · obtain ⟨_, oi, hoi, _⟩ := mem_ready.1 hi
     rw [hnn]; exact (Array.getElem?_eq_some_iff.1 hoi).1
   · exact Nat.lt_of_not_le fun h => tail_waits hs hc hn inv.head _ i0 rfl hi0n hi0u i h hi
  obtain ⟨o, ho, hdst, haf, hlook⟩ := hchk i hin
  obtain ⟨hun, o', ho', hallr⟩ := mem_ready.1 hi
  obtain rfl : o' = o := Option.some.inj (ho'.symm.trans ho)
  have hcnt' : ((List.range n).filter fun j => !(listed.setIfInBounds i true).getD j true).length = f := by
   have := count_set n i listed hun n
   rw [if_pos hin, hcnt] at this
   omega
  have hwaits : ∀ j, Region.waitsFor .any ops i j = true → listed.getD j false = true := fun j hj => by
   obtain ⟨o2, ho2, e, he, hb, hon⟩ := Region.waitsFor_spec hj
   obtain rfl : o2 = o' := Option.some.inj (ho2.symm.trans ho)
   rw [← hon]; exact hallr e he hb
  have hdep : ∀ pre e suf, nds = pre ++ e :: suf → (∀ vals vals' v X, (∀ x ∈ pre, x.k ∈ e.deps → vals x.k = vals' x.k) → e.R (putAll ops vals pre afin) v X → e.R (putAll ops vals' pre afin) v X) ∧ (listed.getD e.k false = true → ∀ x ∈ pre, x.k ∈ e.deps → listed.getD x.k false = true) := fun pre e suf hps => by
   refine ⟨fun vals vals' v X hv hR => (hstab pre e suf hps vals).2.2 _ v X (fun j hj t ht => ?_) hR, fun hl x hx hxd => ?_⟩
   · refine (putAll_at vals vals' t pre afin afin rfl rfl (fun x hx hxt => ?_)).symm
     have hxn := hlt x (by rw [hps]; simp [hx])
     obtain ⟨ox, hox, hdx, _⟩ := hchk x.k hxn
     by_cases hjx : x.k = j
     · exact hv x hx (by rw [hjx]; exact hj)
     · have hjn : j < n := by
        rcases Nat.lt_or_ge j n with h | h
        · exact h
        · exfalso
          have hdx2 : ox.dst = some t := by
           have : dstAt ops x.k = ox.dst := by unfold dstAt; rw [hox]; rfl
           rw [← this]; exact hxt
          have h9 := hdB e (by rw [hps]; simp) j hj
          omega
       have hdx2 : ox.dst = some t := by
        have : dstAt ops x.k = ox.dst := by unfold dstAt; rw [hox]; rfl
        rw [← this]; exact hxt
       exact absurd ht ((hdx t hdx2).2 j hjn (fun e => hjx e.symm))
   · obtain ⟨hk, _, hp, _⟩ := hspec pre e suf hps
     obtain ⟨oe, hoe, _⟩ := hchk e.k hk
     exact waitsT_listed inv.head 4 e.k x.k oe hoe (fun e2 he2 hb2 => inv.head.closed e.k oe hoe hl e2 he2 hb2) ((hp x.k (by simp; exact ⟨x, hx, rfl⟩)).2 hxd)
  have hpreK : ∀ pre e suf, nds = pre ++ e :: suf → e.k = i → ∀ x ∈ pre, x.k ≠ i := fun pre e suf hps hek x hx => by
   have := ((hspec pre e suf hps).2.2.1 x.k (by simp; exact ⟨x, hx, rfl⟩)).1
   omega
  unfold wpOp
  simp only [ho]
  cases hndi : isNd fl i with
  | false =>
   obtain ⟨g, d, v, hg, hd, hfin, hy⟩ := hdet i o' hin hndi ho
   have hsame : ∀ t ∈ o'.looksAt ops, b.tmps[t]? = g.tmps[t]? := fun t ht => by
    rw [hg t ht]
    by_cases hex : ∃ j, j < n ∧ dstAt ops j = some t
    · obtain ⟨j, hj, hjt⟩ := hex
      obtain ⟨_, hw, hnj⟩ := hlook t ht j hj hjt
      have hnj' := hnj hndi
      show _ = if _ then _ else _
      rw [if_pos ⟨j, hj, hnj', hjt⟩, inv.done j t hj hjt (hwaits j hw), hnj']
      rfl
    · show _ = if _ then _ else _
      rw [if_neg (fun ⟨j, hj, _, hjt⟩ => hex ⟨j, hj, hjt⟩)]
      exact inv.rest t (fun j hj hjt => absurd ⟨j, hj, hjt⟩ hex)
   have hy' : YieldsC P ops (Grw (OallK sts) w) o' v b := hy.of_same (exec_same (Region.noSelect_spec hsel i o' · · ho) hsame) (wanted_same hsame)
   have hgo : ∀ X', Below X.heap.size X X' → wpAny P .any ops Q (f + (ops.size - n)) (listed.setIfInBounds i true) (b.put o'.dst v) X' := fun X' hX' =>
    ih _ _ _ _ hcnt' (inv.step hi hin ho hdst (.inl hX') (fun pre e suf hps _ _ vals v hR => (hstab pre e suf hps vals).1 v _ _ hR hX') hdep (fun d2 hd2 _ => by rw [hd] at hd2; rw [← Option.some.inj hd2]; exact hfin) (fun pre e suf hps hek => by
     have h5 := (hspec pre e suf hps).2.1
     rw [hek, hndi] at h5; cases h5) hpreK (fun h => by rw [hndi] at h; cases h))
   rcases hy' with ⟨hw, hv⟩ | ⟨hw, rfl⟩
   · rw [if_pos hw]
     refine .inl ?_
     unfold Oper.wp
     have h3 := hv X inv.below
     generalize (execOp b.eval o').run P X = r at *
     cases r with
     | ok nx w' =>
      cases nx <;> simp only [Oper.quietUpon] at h3 <;> simp only [Oper.upon]
      case value u =>
       obtain ⟨e1, e2⟩ := h3
       rw [e1, e2]
       exact hgo _ (Below.refl _ _)
      case skip =>
       obtain ⟨e1, e2⟩ := h3
       rw [e1, ← e2]
       exact hgo _ (Below.refl _ _)
      case enter f args =>
       obtain ⟨e1, hcl⟩ := h3
       rw [e1]
       exact hcl.mono fun e w'' ⟨he, hw''⟩ => by subst he; exact hgo _ hw''
     | halt x w' => simp only [Oper.quietUpon] at h3
   · rw [hw, if_neg (by decide)]
     exact hgo X (Below.refl _ _)
  | true =>
   have hmem := List.all_eq_true.1 hks i (List.mem_range.2 hin)
   rw [hndi] at hmem
   simp only [Bool.not_true, Bool.false_or, List.contains_iff_mem, List.map_map] at hmem
   obtain ⟨e, he, hek⟩ := List.mem_map.1 hmem
   replace hek : e.k = i := hek
   obtain ⟨pre, suf, hps⟩ := List.append_of_mem he
   obtain ⟨_, _, hpre, _⟩ := hspec pre e suf hps
   have hobl := ((wpNK_unroll nds afin _ hnd vals).1 pre e suf hps).2 o' (by rw [hek]; exact ho) X (by rw [hek]; exact inv.calm i (getD_both hun)) (fun hw => inv.calm0 fun p hp => by
    cases hpl : listed.getD p.1 false with
    | false => rfl
    | true =>
     exfalso
     have hps2 : p.1 < listed.size := by
      rcases Nat.lt_or_ge p.1 listed.size with h' | h'
      · exact h'
      · simp [Array.getElem?_eq_none h'] at hpl
     have hop : ops[p.1]? = some (ops[p.1]'(by rw [← inv.head.size]; exact hps2)) := Array.getElem?_eq_getElem _
     have := waitsT_listed inv.head 4 p.1 e.k _ hop (fun e2 he2 hb2 => inv.head.closed p.1 _ hop hpl e2 he2 hb2) (hw p hp)
     rw [hek, getD_both hun] at this
     cases this) trivial (fun p2 x s2 hx hxd => by
    have hx2 := (hpre x.k (by rw [hx]; simp)).2 hxd
    rw [hek] at hx2
    exact inv.facts p2 x (s2 ++ e :: suf) (by rw [hps, hx]; simp) (waitsT_listed inv.head 4 i x.k o' ho hallr hx2))
   have hprelt : ∀ x ∈ pre, x.k < i := fun x hx => by
    have := (hpre x.k (by simp; exact ⟨x, hx, rfl⟩)).1
    rw [hek] at this; exact this
   have hsame : ∀ t ∈ o'.looksAt ops, b.tmps[t]? = (putAll ops vals pre afin).tmps[t]? := fun t ht => by
    by_cases hex : ∃ j, j < n ∧ dstAt ops j = some t
    · obtain ⟨j, hj, hjt⟩ := hex
      obtain ⟨hji, hw, _⟩ := hlook t ht j hj hjt
      obtain ⟨oj, hoj, hdstj, _⟩ := hchk j hj
      have hdj : oj.dst = some t := by
       have : dstAt ops j = oj.dst := by unfold dstAt; rw [hoj]; rfl
       rw [← this]; exact hjt
      obtain ⟨hdjN, huj⟩ := hdstj t hdj
      obtain ⟨dj, rfl⟩ : ∃ d, d = t := ⟨t, rfl⟩
      have hu : ∀ x ∈ pre, dstAt ops x.k = some dj → x.k = j := fun x hx hxd => by
       rcases Nat.decEq x.k j with hne | heq
       · exact absurd hxd (huj x.k (hlt x (by rw [hps]; simp [hx])) hne)
       · exact heq
      rw [inv.done j dj hj hjt (hwaits j hw)]
      cases hndj : isNd fl j with
      | true =>
       rw [if_pos rfl]
       have hmem := List.all_eq_true.1 hks j (List.mem_range.2 hj)
       rw [hndj] at hmem
       simp only [Bool.not_true, Bool.false_or, List.contains_iff_mem, List.map_map] at hmem
       obtain ⟨x, hx, hxk⟩ := List.mem_map.1 hmem
       replace hxk : x.k = j := hxk
       have hxpre : x ∈ pre := by
        rw [hps] at hx
        rcases List.mem_append.1 hx with hx | hx
        · exact hx
        · rcases List.mem_cons.1 hx with rfl | hx
          · omega
          · obtain ⟨p2, s2, hp2⟩ := List.append_of_mem hx
            have := ((hspec (pre ++ e :: p2) x s2 (by rw [hps, hp2]; simp)).2.2.1 e.k (by simp)).1
            omega
       rw [putAll_eq vals dj j pre afin (by rw [hrest.1]; exact hdjN) ⟨x, hxpre, hxk⟩ hjt hu]
      | false =>
       rw [if_neg (by decide), putAll_ne vals dj pre afin (fun x hx hxd => by
        have h6 := hu x hx hxd
        obtain ⟨p2, s2, hp2⟩ := List.append_of_mem hx
        have h5 := (hspec p2 x (s2 ++ e :: suf) (by rw [hps, hp2]; simp)).2.1
        rw [h6, hndj] at h5; cases h5)]
    · rw [inv.rest t (fun j hj hjt => absurd ⟨j, hj, hjt⟩ hex), putAll_ne vals t pre afin (fun x hx hxd => hex ⟨x.k, hlt x (by rw [hps]; simp [hx]), hxd⟩), hslot t (fun j hj _ hjt => hex ⟨j, hj, hjt⟩)]
   rw [← exec_same (Region.noSelect_spec hsel i o' · · ho) hsame] at hobl
   have hwant : Region.wanted o' (yielded ops b.tmps) = true := (wanted_same hsame).trans (wantedN_at nds afin hW vals pre e suf hps o' (by rw [hek]; exact ho))
   have huk : ∀ x ∈ nds, x.k = i → x = e ∨ x.k = i := fun x _ h => .inr h
   have hone : ∀ x ∈ nds, x.k = i → x = e := fun x hx hxi => by
    rw [hps] at hx
    rcases List.mem_append.1 hx with hx | hx
    · have := hprelt x hx; omega
    · rcases List.mem_cons.1 hx with rfl | hx
      · rfl
      · obtain ⟨p2, s2, hp2⟩ := List.append_of_mem hx
        have := ((hspec (pre ++ e :: p2) x s2 (by rw [hps, hp2]; simp)).2.2.1 e.k (by simp)).1
        omega
   have huniqp : ∀ p2 x s2, nds = p2 ++ x :: s2 → x.k = i → p2 = pre ∧ x = e := fun p2 x s2 hx hxi => by
    have hxe : x = e := hone x (by rw [hx]; simp) hxi
    subst hxe
    refine ⟨?_, rfl⟩
    have hnot : ∀ (l1 l2 s1 s2 : List NdB), l1 ++ x :: s1 = l2 ++ x :: s2 → (∀ y ∈ l1, y.k ≠ i) → (∀ y ∈ l2, y.k ≠ i) → l1 = l2 := by
     intro l1
     induction l1 with
     | nil =>
      intro l2 s1 s2 h _ h2
      cases l2 with
      | nil => rfl
      | cons y l2 =>
       simp only [List.nil_append, List.cons_append, List.cons.injEq] at h
       exact absurd (h.1 ▸ hxi) (h2 y (by simp))
     | cons y l1 ih =>
      intro l2 s1 s2 h h1 h2
      cases l2 with
      | nil =>
       simp only [List.nil_append, List.cons_append, List.cons.injEq] at h
       exact absurd (h.1.symm ▸ hxi) (h1 y (by simp))
      | cons z l2 =>
       simp only [List.cons_append, List.cons.injEq] at h
       rw [h.1, ih l2 s1 s2 h.2 (fun y hy => h1 y (by simp [hy])) (fun y hy => h2 y (by simp [hy]))]
    exact hnot p2 pre s2 suf (hx.symm.trans hps) (fun y hy => hpreK p2 x s2 hx hxi y hy) (fun y hy => hpreK pre x suf hps hek y hy)
   have hgo : ∀ v X', EffK sts i X X' → e.R (putAll ops vals pre afin) v X' → (isAl o' = true → v = .pointer (some ⟨X.heap.size, 0, none⟩) ∧ X.heap.size < X'.heap.size) → wpAny P .any ops Q (f + (ops.size - n)) (listed.setIfInBounds i true) (b.put o'.dst v) X' := fun v X' hX' hR hAl =>
    ih _ _ _ _ hcnt' (inv.step hi hin ho hdst hX' (fun p2 x s2 hx hxi hxl vals v hR => by
     rcases hX' with h | ⟨p, hp, hpi, h⟩
     · exact (hstab p2 x s2 hx vals).1 v _ _ hR h
     · exact (hstab p2 x s2 hx vals).2.1 p hp (by rw [hpi]; exact Ne.symm hxi) (fun hin => by
        rw [hpi] at hin
        have h7 := (hspec p2 x s2 hx).2.2.2 i hin
        rw [List.nil_append] at h7
        obtain ⟨y, hy, hyi⟩ := List.mem_map.1 h7
        have h8 := (hdep p2 x s2 hx).2 hxl y hy (by rw [hyi]; exact hin)
        rw [hyi, getD_both hun] at h8
        cases h8) v _ _ hR h) hdep (fun _ _ h => by rw [hndi] at h; cases h) (fun p2 x s2 hx hxk => by obtain ⟨rfl, rfl⟩ := huniqp p2 x s2 hx hxk; exact hR) hpreK (fun _ => hAl))
   have hrun : ∀ nx w', (execOp b.eval o').run P X = .ok nx w' → isAl o' = true → nx = .value (.pointer (some ⟨X.heap.size, 0, none⟩)) ∧ X.heap.size < w'.heap.size := fun nx w' h1 h2 => run_al h2 h1
   rw [if_pos hwant]
   refine .inl ?_
   unfold Oper.wp
   generalize (execOp b.eval o').run P X = r at *
   rw [hek] at hobl
   cases r with
   | ok nx w' =>
    cases nx <;> simp only [LeavesK] at hobl <;> simp only [Oper.upon]
    case value u => exact hgo _ _ hobl.1 hobl.2 (fun h => by obtain ⟨q1, q2⟩ := hrun _ _ rfl h; cases q1; exact ⟨rfl, q2⟩)
    case skip => exact hgo _ _ hobl.1 hobl.2 (fun h => by obtain ⟨q1, _⟩ := hrun _ _ rfl h; cases q1)
    case enter f args =>
     obtain ⟨e1, hcl⟩ := hobl
     have hno : isAl o' = true → False := fun h => by obtain ⟨q1, _⟩ := hrun _ _ rfl h; cases q1
     rw [e1]
     exact hcl.mono fun e w'' ⟨v, he, hw'', hR⟩ => by subst he; exact hgo _ _ hw'' hR (fun h => (hno h).elim)
   | halt x w' => simp only [LeavesK] at hobl
end
theorem wpC_take {C : World → Prop} {L : Act → Prop} : ∀ (ol : List Oper) (a : Act), wpC P ops C L ol a → ∃ afin, wpC P ops C (fun a' => a' = afin) ol a ∧ L afin
 | [], a, h => ⟨a, rfl, h⟩
 | o :: ol, a, h => by
  unfold wpC at h
  split at h
  · rename_i hw
    obtain ⟨v, h1, h2⟩ := h
    obtain ⟨afin, h3, h4⟩ := wpC_take ol _ h2
    exact ⟨afin, by unfold wpC; rw [if_pos hw]; exact ⟨v, h1, h3⟩, h4⟩
  · rename_i hw
    obtain ⟨afin, h3, h4⟩ := wpC_take ol _ h
    exact ⟨afin, by unfold wpC; rw [if_neg hw]; exact h3, h4⟩
theorem wpC_anti {C C' : World → Prop} {L : Act → Prop} (hC : ∀ X, C' X → C X) : ∀ (ol : List Oper) (a : Act), wpC P ops C L ol a → wpC P ops C' L ol a
 | [], a, h => h
 | o :: ol, a, h => by
  unfold wpC at h ⊢
  split
  · rename_i hw
    rw [if_pos hw] at h
    obtain ⟨v, h1, h2⟩ := h
    exact ⟨v, fun X hX => h1 X (hC X hX), wpC_anti hC ol _ h2⟩
  · rename_i hw
    rw [if_neg hw] at h
    exact wpC_anti hC ol _ h
def Drawn (P : Program) (l : List Oper) (Q : Exit → Act → World → Prop) (a : Act) (w : World) : Prop := wpAny P .any l.toArray Q l.toArray.size (Array.replicate l.toArray.size false) a { w with drawn := w.drawn + 1 }
theorem an_flowG {Q : Exit → Act → World → Prop} {a : Act} {w : World} {l : List Oper} (sts : List StK) (fl : List Bool) (nds : List NdB)
 (hB : flowBG l.toArray fl fl.length a.tmps.size (nds.map fun d => (d.k, d.deps)) = true)
 (h : ∃ afin : Act, wpC P l.toArray (Grw (OallK sts) w) (fun a' => a' = afin) (pick fl l) a ∧ wpNK P l.toArray sts w Q (l.drop fl.length) nds afin [] ∧ wantedN l.toArray nds afin) :
 Drawn P l Q a w := by
 obtain ⟨afin, hwg, hnd, hW⟩ := h
 have hB' := hB
 unfold flowBG at hB'
 rw [Bool.and_eq_true, Bool.and_eq_true, Bool.and_eq_true, Bool.and_eq_true, Bool.and_eq_true, Bool.and_eq_true, Bool.and_eq_true, decide_eq_true_eq] at hB'
 obtain ⟨⟨⟨⟨⟨⟨⟨hsel, hnsc⟩, hseq⟩, hh⟩, _⟩, hks⟩, hndB⟩, _⟩ := hB'
 have hnle : fl.length ≤ l.toArray.size := by
  rcases flowBK_n hnsc with h | h
  · exact Nat.le_of_eq h
  · exact Nat.le_of_lt h.1
 have hsz : l.toArray.size = l.length := by simp
 have hrest := wpC_rest _ _ hwg
 have hslot : ∀ t, (∀ j, j < fl.length → isNd fl j = false → dstAt l.toArray j ≠ some t) → afin.tmps[t]? = a.tmps[t]? := fun t ht => by
  refine (wpC_slot _ _ ?_ hwg).1.symm
  have aux : ∀ (fs : List Bool) (l' : List Oper) (i : Nat), i + fs.length = fl.length → (∀ j, fs[j]? = fl[i + j]?) → (∀ j, l'[j]? = l.toArray[i + j]?) → ∀ o ∈ pick fs l', o.dst ≠ some t := by
   intro fs
   induction fs with
   | nil => intro l' i _ _ _ o ho; cases l' <;> simp [pick] at ho
   | cons b fs ih =>
    intro l' i hlen hfs hl' o ho
    cases l' with
    | nil => cases b <;> simp [pick] at ho
    | cons x l' =>
     have hx : l.toArray[i]? = some x := by have := hl' 0; rw [Nat.add_zero] at this; rw [← this]; rfl
     have hb : isNd fl i = b := by have := hfs 0; rw [Nat.add_zero] at this; unfold isNd; rw [← this]; rfl
     have hfs' : ∀ j, fs[j]? = fl[i + 1 + j]? := fun j => by have := hfs (j + 1); rw [show i + 1 + j = i + (j + 1) by omega, ← this]; rfl
     have hl'' : ∀ j, l'[j]? = l.toArray[i + 1 + j]? := fun j => by have := hl' (j + 1); rw [show i + 1 + j = i + (j + 1) by omega, ← this]; rfl
     cases b with
     | true => exact ih l' (i + 1) (by simp at hlen; omega) hfs' hl'' o ho
     | false =>
      rcases List.mem_cons.1 ho with rfl | ho
      · intro e
        exact ht i (by simp at hlen; omega) hb (by unfold dstAt; rw [hx]; exact e)
      · exact ih l' (i + 1) (by simp at hlen; omega) hfs' hl'' o ho
  exact aux fl l 0 (by omega) (fun j => by rw [Nat.zero_add]) (fun j => by rw [Nat.zero_add]; simp)
 have hdet := det_all (P := P) (C := Grw (OallK sts) w) (afin := afin) hh rfl rfl hnle (fun t => if (∃ j, j < fl.length ∧ isNd fl j = false ∧ dstAt l.toArray j = some t) then afin.tmps[t]? else a.tmps[t]?)
  (fun j t hj hnj hjt => if_pos ⟨j, hj, hnj, hjt⟩) (fun t ht => if_neg (fun ⟨j, hj, hnj, hjt⟩ => ht j hj hnj hjt))
  fl l 0 a (by omega) (fun j => by rw [Nat.zero_add]) (fun j => by rw [Nat.zero_add]; simp) rfl (fun t ⟨j, hj, _⟩ => absurd hj (Nat.not_lt_zero _)) (fun t _ => rfl) hwg
 have := flow_anyK (P := P) (w := w) (Q := Q) (tail := l.drop fl.length) (a := a) (afin := afin) (sts := sts) hB rfl (fun j => by rw [List.getElem?_drop, List.getElem?_toArray]) (by rw [List.length_drop, hsz]) hrest hslot
  (fun j o hj hnj ho => hdet j o (Nat.zero_le _) hj hnj ho) hnd hW fl.length (Array.replicate l.toArray.size false) a { w with drawn := w.drawn + 1 } (fun _ => undef)
  (by
   rw [List.filter_eq_self.2 (fun j hj => by
    have hj' : j < l.toArray.size := by have := List.mem_range.1 hj; omega
    rw [getD_in (by rw [Array.size_replicate]; exact hj') (getD_replicate_false _ _)]; rfl)]
   simp)
  ⟨(Grw.refl _ w).drew, ⟨by simp, fun j oj _ hl => (by rw [getD_replicate_false] at hl; cases hl), fun t _ ht => getD_in (by simpa using ht) (getD_replicate_false _ _)⟩, rfl, rfl,
   fun i d _ _ hl => (by rw [getD_replicate_false] at hl; cases hl), fun t _ => rfl, fun pre d suf _ hl => (by rw [getD_replicate_false] at hl; cases hl), fun k _ => (Grw.refl _ w).drew, fun _ => (Grw.refl _ w).drew,
   fun i o _ _ _ hl => (by rw [getD_replicate_false] at hl; cases hl), fun i j oi oj _ _ _ _ _ _ _ hl => (by rw [getD_replicate_false] at hl; cases hl)⟩
 rw [show fl.length + (l.toArray.size - fl.length) = l.toArray.size by omega] at this
 exact this
theorem an_flowK0 {Q : Exit → Act → World → Prop} {a : Act} {w : World} {l : List Oper} (sts : List StK) (fl : List Bool) (nds : List NdB)
 (hB : flowBK l.toArray fl fl.length a.tmps.size (nds.map fun d => (d.k, d.deps)) = true)
 (h : ∃ afin : Act, wpC P l.toArray (Grw (OallK sts) w) (fun a' => a' = afin) (pick fl l) a ∧ wpNK P l.toArray sts w Q (l.drop fl.length) nds afin []) :
 Drawn P l Q a w := by
 obtain ⟨afin, hwg, hnd⟩ := h
 obtain ⟨hG, hh⟩ := flowBK_G hB
 have hG' := hG
 unfold flowBG at hG'
 simp only [Bool.and_eq_true] at hG'
 have hspec := ndsB_spec nds [] hG'.1.2
 exact an_flowG sts fl nds hG ⟨afin, hwg, hnd, wantedN_none nds afin fun d hd o ho => by
  obtain ⟨p1, s1, h1⟩ := List.append_of_mem hd
  obtain ⟨g1, g2, _⟩ := hspec p1 d s1 h1
  exact headB_gd hh g1 g2 ho⟩
def liftE (sts : List (Nat × (Nat → Option Obj → Prop))) : List StK := sts.map fun p => (p.1, p.2, fun _ _ => True)
theorem mem_liftE {sts : List (Nat × (Nat → Option Obj → Prop))} {p : StK} (h : p ∈ liftE sts) : ∃ q ∈ sts, p = (q.1, q.2, fun _ _ => True) := by
 obtain ⟨q, h1, h2⟩ := List.mem_map.1 h; exact ⟨q, h1, h2.symm⟩
theorem flowB_K {ops : Array Oper} {fl : List Bool} {n N : Nat} {ks : List (Nat × List Nat)} (h : flowB ops fl n N ks = true) : flowBK ops fl n N ks = true := by
 unfold flowB at h
 unfold flowBK
 simp only [Bool.and_eq_true, Bool.or_eq_true] at h ⊢
 obtain ⟨⟨⟨⟨⟨⟨⟨⟨⟨h1, h2⟩, h3⟩, h4⟩, h5⟩, h6⟩, h7⟩, h8⟩, h9⟩, h10⟩ := h
 exact ⟨⟨⟨⟨⟨⟨⟨h1, .inr ⟨⟨h2, h3⟩, h4⟩⟩, h5⟩, h6⟩, h7⟩, h8⟩, h9⟩, h10⟩
theorem wpNK_of_NE {P : Program} {ops : Array Oper} {w : World} {sts : List (Nat × (Nat → Option Obj → Prop))} {Q : Exit → Act → World → Prop} {tail : List Oper} : ∀ (nds : List NdB) (g : Act) (Φ : List (Nat × (World → Prop))), wpNE P ops sts w Q tail nds g Φ → wpNK P ops (liftE sts) w Q tail nds g Φ
 | [], g, Φ, h => fun X hX _ hΦ => h X (hX.weaken fun x o ⟨p, hp, hpo⟩ => by obtain ⟨q, h1, rfl⟩ := mem_liftE hp; exact ⟨q, h1, hpo⟩) hΦ
 | d :: rest, g, Φ, ⟨⟨h1, h1b, h1c⟩, h2, h3⟩ => by
  refine ⟨⟨h1, fun p hp hne hnd v X X' hR hX => ?_, h1c⟩, fun o ho X hX _ hΦ => ?_, fun v => wpNK_of_NE rest _ _ (h3 v)⟩
  · obtain ⟨q, hq, rfl⟩ := mem_liftE hp
    exact h1b q hq hne hnd v X X' hR hX.1
  · have h := h2 o ho X (hX.weaken fun x o ⟨p, hp, hne, hpo⟩ => by obtain ⟨q, hq, rfl⟩ := mem_liftE hp; exact ⟨q, hq, hne, hpo⟩) hΦ
    have he : ∀ X', Eff sts d.k X X' → EffK (liftE sts) d.k X X' := fun X' hX' => hX'.imp id fun ⟨p, hp, e, hG⟩ => ⟨_, List.mem_map.2 ⟨p, hp, rfl⟩, e, hG, trivial⟩
    generalize (execOp g.eval o).run P X = r at *
    cases r with
    | ok nx w' =>
     cases nx <;> simp only [LeavesE] at h <;> simp only [LeavesK]
     case value u => exact ⟨he _ h.1, h.2⟩
     case skip => exact ⟨he _ h.1, h.2⟩
     case enter f args => exact ⟨h.1, h.2.mono fun e X'' ⟨v, h1, h2, h3⟩ => ⟨v, h1, he _ h2, h3⟩⟩
    | halt x w' => simp only [LeavesE] at h
theorem an_flowE {P : Program} {Q : Exit → Act → World → Prop} {a : Act} {w : World} {l : List Oper} (sts : List (Nat × (Nat → Option Obj → Prop))) (fl : List Bool) (nds : List NdB)
 (hB : flowB l.toArray fl fl.length a.tmps.size (nds.map fun d => (d.k, d.deps)) = true)
 (h : ∃ afin : Act, wpC P l.toArray (Grw (Oall sts) w) (fun a' => a' = afin) (pick fl l) a ∧ wpNE P l.toArray sts w Q (l.drop fl.length) nds afin []) :
 Drawn P l Q a w := by
 obtain ⟨afin, h1, h2⟩ := h
 exact an_flowK0 (liftE sts) fl nds (flowB_K hB) ⟨afin, wpC_anti (fun X hX => hX.weaken fun x o ⟨p, hp, hpo⟩ => by obtain ⟨q, hq, rfl⟩ := mem_liftE hp; exact ⟨q, hq, hpo⟩) _ _ h1, wpNK_of_NE nds afin _ h2⟩
theorem any_flowE {P : Program} {Q : Exit → Act → World → Prop} {a : Act} {w : World} {l : List Oper} (sts : List (Nat × (Nat → Option Obj → Prop))) (fl : List Bool) (nds : List NdB)
 (hB : flowB l.toArray fl fl.length a.tmps.size (nds.map fun d => (d.k, d.deps)) = true) (hds : dstsB (pick fl l) a.tmps.size = true)
 (h : ∃ afin : Act, (∀ X, Grw (Oall sts) w X → wpQuiet P l.toArray (fun w' => ∃ p : Regrown, w' = grow (redrawn X p.d) p.os) (fun a' => a' = afin) (pick fl l) a) ∧ wpNE P l.toArray sts w Q (l.drop fl.length) nds afin []) :
 Drawn P l Q a w := by
 obtain ⟨afin, hq, hnd⟩ := h
 exact an_flowE sts fl nds hB ⟨afin, wpC_of_quiet (C := Grw (Oall sts) w) (Grw.refl _ w) (pick fl l) a hds hq, hnd⟩
theorem wp_region_flowE {P : Program} {id : Nat} {Q : Exit → Act → World → Prop} {a : Act} {w : World} {l : List Oper} (sts : List (Nat × (Nat → Option Obj → Prop))) (fl : List Bool) (nds : List NdB) (hm : P.follows .mixedOrders = true)
 (hB : flowB l.toArray fl fl.length a.tmps.size (nds.map fun d => (d.k, d.deps)) = true) (hds : dstsB (pick fl l) a.tmps.size = true)
 (h : ∃ afin : Act, (∀ X, Grw (Oall sts) w X → wpQuiet P l.toArray (fun w' => ∃ p : Regrown, w' = grow (redrawn X p.d) p.os) (fun a' => a' = afin) (pick fl l) a) ∧ wpNE P l.toArray sts w Q (l.drop fl.length) nds afin []) :
 (Code.region id l.toArray true).wp P Q a w := wp_region_any hm (any_flowE sts fl nds hB hds h)
theorem wp_region_flowS {id : Nat} {Q : Exit → Act → World → Prop} {a : Act} {w : World} {l : List Oper} (O : Nat → Option Obj → Prop) (fl : List Bool) (nds : List NdA) (hm : P.follows .mixedOrders = true)
 (hB : flowB l.toArray fl fl.length a.tmps.size (nds.map fun d => (d.k, d.deps)) = true) (hds : dstsB (pick fl l) a.tmps.size = true) (hone1 : ∀ e ∈ nds, ∀ f ∈ nds, e.st = true → f.st = true → e.k = f.k)
 (h : ∃ afin : Act, (∀ X, Grw O w X → wpQuiet P l.toArray (fun w' => ∃ p : Regrown, w' = grow (redrawn X p.d) p.os) (fun a' => a' = afin) (pick fl l) a) ∧ wpNO P l.toArray O w Q (l.drop fl.length) nds afin []) :
 (Code.region id l.toArray true).wp P Q a w := by
 obtain ⟨afin, hq, hnd⟩ := h
 refine wp_region_flowE ((nds.filter (·.st)).map fun d => (d.k, O)) fl (nds.map NdA.lift) hm (by rw [List.map_map]; exact hB) hds ⟨afin, fun X hX => hq X (hX.weaken (fun x o ⟨p, hp, hpo⟩ => by obtain ⟨d, _, rfl⟩ := List.mem_map.1 hp; exact hpo)), ?_⟩
 refine wpNE_of_NO nds hone1 ?_ nds afin [] (fun d hd => hd) hnd
 intro e he f hf hk
 have hB' := hB
 unfold flowB at hB'
 simp only [Bool.and_eq_true, decide_eq_true_eq] at hB'
 obtain ⟨⟨⟨_, _⟩, hndB⟩, _⟩ := hB'
 have hspec := ndsB_spec (nds.map NdA.lift) [] (by rw [List.map_map]; exact hndB)
 obtain ⟨p1, s1, h1⟩ := List.append_of_mem he
 rw [h1] at hf
 rcases List.mem_append.1 hf with hf | hf
 · have := ((hspec (p1.map NdA.lift) e.lift (s1.map NdA.lift) (by rw [h1]; simp)).2.2.1 f.k (by simp; exact ⟨f, hf, rfl⟩)).1
   rw [show e.lift.k = e.k from rfl] at this
   omega
 · rcases List.mem_cons.1 hf with rfl | hf
   · rfl
   · obtain ⟨p2, s2, h2⟩ := List.append_of_mem hf
     have := ((hspec ((p1 ++ e :: p2).map NdA.lift) f.lift (s2.map NdA.lift) (by rw [h1, h2]; simp)).2.2.1 e.k (by simp; right; left; rfl)).1
     rw [show f.lift.k = f.k from rfl] at this
     omega
theorem wp_region_flow {id : Nat} {Q : Exit → Act → World → Prop} {a : Act} {w : World} {l : List Oper} (fl : List Bool) (nds : List Nd) (hm : P.follows .mixedOrders = true)
 (hB : flowB l.toArray fl fl.length a.tmps.size (nds.map fun d => (d.k, d.deps)) = true) (hds : dstsB (pick fl l) a.tmps.size = true) (hst : nds.all (fun d => !d.st) = true)
 (h : ∃ afin : Act, (∀ X, Below w.heap.size w X → wpQuiet P l.toArray (fun w' => ∃ p : Regrown, w' = grow (redrawn X p.d) p.os) (fun a' => a' = afin) (pick fl l) a) ∧ wpND P l.toArray w Q (l.drop fl.length) nds afin []) :
 (Code.region id l.toArray true).wp P Q a w := by
 obtain ⟨afin, hq, hnd⟩ := h
 exact wp_region_flowS (fun _ _ => False) fl (nds.map Nd.lift) hm (by rw [List.map_map]; exact hB) hds (fun e he f hf hes => by
  obtain ⟨x, hx, rfl⟩ := List.mem_map.1 he
  have := List.all_eq_true.1 hst x hx
  rw [show x.st = true from hes] at this; cases this) ⟨afin, fun X hX => hq X hX.below, wpNO_of_ND nds afin _ hnd⟩
end
theorem regcell {w X : World} (hX : Below w.heap.size w X) : ∀ d os b o, b < w.heap.size → (grow (redrawn X d) os).cell? ⟨b, o, none⟩ = w.cell? ⟨b, o, none⟩ := fun d os b o h =>
 ((below_regrown X d os).cell (p := ⟨b, o, none⟩) (Nat.lt_of_lt_of_le h hX.size)).trans (hX.cell (p := ⟨b, o, none⟩) h)
end Go.Proofs.YtanicpgmbhfipaaGreatDoor
namespace Go.Proofs.YtanicpgmbhfipaaGreatDoor
set_option linter.unusedVariables false
set_option linter.unusedSimpArgs false
open Go.RowKit
structure AceP where
 k : Int
 f : Int
 m : Int
 w : Int
structure DscP where
 o : Int
 g : Int
 pr : Bool
 he : Bool
 es : List AceP
 us : List AceP
structure TokP where
 u : Int
 gs : List Int
 p : Int
def hldB (n : Int) : Bool := n == 4 || n == 5 || inB n 10 999
def whoB (n : Int) : Bool := inB n 1 5 || inB n 10 999
def aceR (a : AceP) : Bool := inB a.f 0 31 && inB a.m 1 511 && whoB a.w
def aceE (a : AceP) : Int := if inB a.k 0 2 = true then (if aceR a = true then 0 else 2) else 15
theorem aceE_first (a : AceP) : firstE [unl (inB a.k 0 2) 15, unl (aceR a) 2] = aceE a := by
 unfold aceE
 cases inB a.k 0 2 <;> cases aceR a <;> simp [firstE, unl]
def pairE (o g : Int) : Int := unl (hldB o && hldB g) 2
def entE (n i : Nat) (a : AceP) : Int := if aceE a ≠ 0 then aceE a else unl ((a.k == 2) == decide (n ≤ i)) 15
def dscP (d : DscP) : Int × Int :=
 if pairE d.o d.g ≠ 0 then (0, pairE d.o d.g) else if 16 < d.es.length ∨ 16 < d.us.length then (0, 8) else if d.he = false ∧ d.es ≠ [] then (0, 3) else eachE (entE d.es.length) 0 (d.es ++ d.us)
def dscE (d : DscP) : Int := (dscP d).2
def ordE (l : List Int) (i : Nat) (n : Int) : Int := firstE [unl (hldB n) 2, unl (i == 0 || decide (l.getD (i - 1) 0 < n)) 9]
def usersE (l : List Int) : Int := (eachE (ordE l) 0 l).2
def tokE (t : TokP) : Int := firstE [unl (hldB t.u) 2, unl (decide (t.gs.length ≤ 16)) 8, usersE t.gs, unl (inB t.p 0 15) 2]
def mskE (m : Int) : Int := unl (inB m 1 511) 2
def bitI (x : Int) (i : Nat) : Bool := x / 2 ^ i % 2 == 1
def isT (t : TokP) (who : Int) : Bool := who == 1 || who == t.u || t.gs.contains who
def cntB (a : AceP) : Bool := !bitI a.f 3
def prvB (p : Int) (i : Nat) : Bool := (bitI p 0 && bitI 73 i) || (bitI p 1 && bitI 438 i) || (bitI p 3 && bitI 256 i)
def hitB (t : TokP) (i : Nat) (a : AceP) : Bool := cntB a && isT t a.w && bitI a.m i
def idxF {α : Type} (g : α → Bool) : Nat → List α → Int
 | _, [] => -1
 | k, a :: l => if g a = true then (k : Int) else idxF g (k + 1) l
theorem idxF_spec {α : Type} (g : α → Bool) : ∀ (l : List α) (k : Nat), (idxF g k l = -1 ∧ ∀ a ∈ l, g a = false) ∨ ∃ j, ∃ h : j < l.length, idxF g k l = ((k + j : Nat) : Int) ∧ g l[j] = true ∧ ∀ m (hm : m < j), g (l[m]'(by omega)) = false
 | [], k => .inl ⟨rfl, by simp⟩
 | a :: l, k => by
  unfold idxF
  by_cases h : g a = true
  · rw [if_pos h]
    exact .inr ⟨0, by simp, by simp, h, fun m hm => by omega⟩
  · rw [if_neg h]
    have h' : g a = false := by simpa using h
    rcases idxF_spec g l (k + 1) with ⟨h1, h2⟩ | ⟨j, hj, h1, h2, h3⟩
    · exact .inl ⟨h1, by simpa using ⟨h', h2⟩⟩
    · refine .inr ⟨j + 1, by simpa using hj, by rw [h1]; congr 1; omega, h2, fun m hm => ?_⟩
      cases m with
      | zero => exact h'
      | succ m => exact h3 m (by omega)
def byP (d : DscP) (t : TokP) (i : Nat) : Int :=
 if prvB t.p i = true then -1 else if ((i == 6 || i == 7) && isT t d.o) = true then -2 else if d.he = false then -3 else if idxF (hitB t i) 0 d.es < 0 then -4 else idxF (hitB t i) 0 d.es
def grtB (d : DscP) (t : TokP) (i : Nat) : Bool :=
 byP d t i != -4 && (decide (byP d t i < 0) || ((d.es.getD (byP d t i).toNat ⟨0, 0, 0, 0⟩).k == 0))
def rgtN (d : DscP) (t : TokP) : Nat → Int
 | 0 => 0
 | n + 1 => rgtN d t n + if grtB d t n = true then 2 ^ n else 0
def rgtP (d : DscP) (t : TokP) : Int := rgtN d t 9
def decP (d : DscP) (t : TokP) : List Int := (List.range 9).map (byP d t)
theorem rgtN_bd (d : DscP) (t : TokP) : ∀ n, 0 ≤ rgtN d t n ∧ rgtN d t n < 2 ^ n
 | 0 => by simp [rgtN]
 | n + 1 => by
  obtain ⟨h1, h2⟩ := rgtN_bd d t n
  have h3 : (2 : Int) ^ (n + 1) = 2 ^ n + 2 ^ n := by rw [Int.pow_succ]; omega
  unfold rgtN
  split <;> omega
def aceV (a : AceP) : List Value := [.int .i64 a.k, .int .i64 a.f, .int .i64 a.m, .int .i64 a.w]
def acesV (l : List AceP) : List Value := l.flatMap aceV
theorem acesV_length (l : List AceP) : (acesV l).length = l.length * 4 := by
 induction l with
 | nil => rfl
 | cons a l ih => unfold acesV at ih ⊢; rw [List.flatMap_cons, List.length_append, ih, List.length_cons]; show 4 + _ = _; omega
theorem acesV_get : ∀ (l : List AceP) (k : Nat) (h : k < l.length), (acesV l)[k * 4]? = some (.int .i64 l[k].k) ∧ (acesV l)[k * 4 + 1]? = some (.int .i64 l[k].f) ∧ (acesV l)[k * 4 + 1 + 1]? = some (.int .i64 l[k].m) ∧ (acesV l)[k * 4 + 1 + 1 + 1]? = some (.int .i64 l[k].w)
 | [], k, h => by simp at h
 | a :: l, 0, _ => ⟨rfl, rfl, rfl, rfl⟩
 | a :: l, k + 1, h => by
  have := acesV_get l k (by simpa using h)
  unfold acesV at this ⊢
  simp only [List.flatMap_cons, aceV, Nat.add_mul, Nat.one_mul, List.cons_append, List.nil_append, List.getElem_cons_succ]
  exact this
end Go.Proofs.YtanicpgmbhfipaaGreatDoor
namespace Go.Proofs.YtanicpgmbhfipaaGreatDoor
set_option linter.unusedVariables false
set_option linter.unusedSimpArgs false
open Go.RowKit
theorem wraps62 (n : Int) (h₀ : 0 ≤ n) (h₁ : n < 2 ^ 62) : IntKind.i64.wrap n = n := wraps_i64 62 (by decide) n h₀ h₁
theorem and_bit (x : Int) (i : Nat) (h0 : 0 ≤ x) (h1 : x < 2 ^ 62) (hi : i < 62) : (bits .and .i64 x ((2 : Int) ^ i) != 0) = bitI x i := by
 obtain ⟨n, rfl⟩ := Int.eq_ofNat_of_zero_le h0
 have hn : n < 2 ^ 62 := by exact_mod_cast h1
 have h2 : (2 : Nat) ^ i < 2 ^ 62 := Nat.pow_lt_pow_right (by decide) hi
 have e : ((2 : Int) ^ i) = ((2 ^ i : Nat) : Int) := by simp
 rw [e]
 show (bits .and .i64 ((n : Nat) : Int) ((2 ^ i : Nat) : Int) != 0) = _
 rw [(bits_nat .i64 62 (by decide) wraps62 n (2 ^ i) hn h2).1, nat_bit]
 have hp : 0 < 2 ^ i := Nat.two_pow_pos i
 unfold bitI
 have e2 : ((n : Nat) : Int) / 2 ^ i % 2 = ((n / 2 ^ i % 2 : Nat) : Int) := by push_cast; rfl
 show (((n / 2 ^ i % 2 * 2 ^ i : Nat) : Int) != 0) = (((n : Nat) : Int) / 2 ^ i % 2 == 1)
 rw [e2]
 have h3 : n / 2 ^ i % 2 = 0 ∨ n / 2 ^ i % 2 = 1 := by omega
 rcases h3 with h3 | h3
 · rw [h3]; simp
 · rw [h3]
   have : ((1 * 2 ^ i : Nat) : Int) ≠ 0 := by
    rw [Nat.one_mul]; exact_mod_cast (Nat.pos_iff_ne_zero.1 hp)
   have t1 : (((1 * 2 ^ i : Nat) : Int) != 0) = true := by simpa using this
   rw [t1]; rfl
def gP (k : Nat) : Int := [1, 2, 8].getD k 0
def gR (k : Nat) : Int := [73, 438, 256].getD k 0
def prvR (p : Int) : Nat → Int
 | 0 => 0
 | k + 1 => if (bits .and .i64 p (gP k) != 0) = true then bits .or .i64 (prvR p k) (gR k) else prvR p k
theorem prvR_bits (p : Int) (h0 : 0 ≤ p) (h1 : p ≤ 15) (i : Nat) (hi : i < 9) : (bits .and .i64 (prvR p 3) ((2 : Int) ^ i) != 0) = prvB p i := by
 have all : ∀ p : Fin 16, ∀ i : Fin 9, (bits .and .i64 (prvR (p.val : Int) 3) ((2 : Int) ^ i.val) != 0) = prvB (p.val : Int) i.val := by decide +kernel
 obtain ⟨n, rfl⟩ := Int.eq_ofNat_of_zero_le h0
 exact all ⟨n, by omega⟩ ⟨i, hi⟩
theorem own_bits (i : Nat) (hi : i < 9) : (bits .and .i64 192 ((2 : Int) ^ i) != 0) = (i == 6 || i == 7) := by
 have all : ∀ i : Fin 9, (bits .and .i64 192 ((2 : Int) ^ i.val) != 0) = (i.val == 6 || i.val == 7) := by decide +kernel
 exact all ⟨i, hi⟩
theorem cnt_bits (a : AceP) (h0 : 0 ≤ a.f) (h1 : a.f ≤ 31) : (bits .and .i64 a.f 8 == 0) = cntB a := by
 have h := and_bit a.f 3 h0 (by omega) (by decide)
 unfold cntB
 rw [← h]
 simp [bne]
end Go.Proofs.YtanicpgmbhfipaaGreatDoor
namespace Go.Proofs.YtanicpgmbhfipaaGreatDoor
set_option linter.unusedVariables false
set_option linter.unusedSimpArgs false
open Go.RowKit Go.Sort
theorem hld_in (n : Int) (h4 : (n == 4) = false) (h5 : (n == 5) = false) : hldB n = inB n 10 999 := by unfold hldB; rw [h4, h5]; rfl
theorem isUser_any (n : Int) (w : World) : Calls Tryz.prog 86 #[.int .i64 n] w fun e w' => e = .returned (.bool (hldB n)) ∧ w = w' := by
 by_cases h4 : n = 4
 · subst h4
   go_enter Tryz.func86, Tryz.ntmps86
   go_wp2
   go_ret
   exact ⟨rfl, rfl⟩
 · by_cases h5 : n = 5
   · subst h5
     go_enter Tryz.func86, Tryz.ntmps86
     go_wp2
     go_ret
     exact ⟨rfl, rfl⟩
   · have k4 : (n == 4) = false := by simpa using h4
     have k5 : (n == 5) = false := by simpa using h5
     have H := Lib.hid (hld_in n k4 k5)
     clear h4 h5
     go_enter Tryz.func86, Tryz.ntmps86
     go_wp2_with (go_at_call 88; refine (access_within_any _ _ _ _).mono ?_; rintro e w' ⟨rfl, rfl⟩)
     go_ret
     exact ⟨by rw [H.out]; rfl, rfl⟩
theorem isIdentity_any (n : Int) (w : World) : Calls Tryz.prog 126 #[.int .i64 n] w fun e w' => e = .returned (.bool (whoB n)) ∧ w = w' := by
 cases h1 : inB n 1 5
 · have H := Lib.hid (show whoB n = inB n 10 999 by unfold whoB; rw [h1]; rfl)
   go_enter Tryz.func126, Tryz.ntmps126
   go_wp2_with (go_at_call 125; refine (acl_within_any _ _ _ _).mono ?_; rintro e w' ⟨rfl, rfl⟩)
   go_ret
   exact ⟨by rw [H.out]; rfl, rfl⟩
 · have H := Lib.hid (show whoB n = true by unfold whoB; rw [h1]; rfl)
   go_enter Tryz.func126, Tryz.ntmps126
   go_wp2_with (go_at_call 125; refine (acl_within_any _ _ _ _).mono ?_; rintro e w' ⟨rfl, rfl⟩)
   go_ret
   exact ⟨by rw [H.out]; rfl, rfl⟩
theorem IsUser_any (n : Int) (w : World) : Calls Tryz.prog 95 #[.int .i64 n] w fun e w' => e = .returned (.bool (inB n 10 999)) ∧ w = w' := by
 go_enter Tryz.func95, Tryz.ntmps95
 go_wp2_with (go_at_call 58; refine (Within_any _ _ _ _).mono ?_; rintro e w' ⟨rfl, rfl⟩)
 go_ret
 exact ⟨rfl, rfl⟩
theorem IsWho_any (n : Int) (w : World) : Calls Tryz.prog 124 #[.int .i64 n] w fun e w' => e = .returned (.bool (whoB n)) ∧ w = w' := by
 cases h1 : inB n 1 5
 · have H := Lib.hid (show whoB n = inB n 10 999 by unfold whoB; rw [h1]; rfl)
   go_enter Tryz.func124, Tryz.ntmps124
   go_wp2_with (first | (go_at_call 58; refine (Within_any _ _ _ _).mono ?_; rintro e w' ⟨rfl, rfl⟩) | (go_at_call 95; refine (IsUser_any _ _).mono ?_; rintro e w' ⟨rfl, rfl⟩))
   go_ret
   exact ⟨by rw [H.out]; rfl, rfl⟩
 · have H := Lib.hid (show whoB n = true by unfold whoB; rw [h1]; rfl)
   go_enter Tryz.func124, Tryz.ntmps124
   go_wp2_with (first | (go_at_call 58; refine (Within_any _ _ _ _).mono ?_; rintro e w' ⟨rfl, rfl⟩) | (go_at_call 95; refine (IsUser_any _ _).mono ?_; rintro e w' ⟨rfl, rfl⟩))
   go_ret
   exact ⟨by rw [H.out]; rfl, rfl⟩
theorem r16hold_any (n : Int) (w : World) : Calls Tryz.prog 123 #[.int .i64 n] w fun e w' => e = .returned (.bool (hldB n)) ∧ w = w' := by
 cases h1 : inB n 10 999
 · by_cases h4 : n = 4
   · subst h4
     go_enter Tryz.func123, Tryz.ntmps123
     go_wp2_with (go_at_call 95; refine (IsUser_any _ _).mono ?_; rintro e w' ⟨rfl, rfl⟩)
     go_ret
     exact ⟨rfl, rfl⟩
   · have k4 : (n == 4) = false := by simpa using h4
     have H := Lib.hid (show hldB n = (n == 5) by unfold hldB; rw [k4, h1]; simp)
     clear h4
     go_enter Tryz.func123, Tryz.ntmps123
     go_wp2_with (go_at_call 95; refine (IsUser_any _ _).mono ?_; rintro e w' ⟨rfl, rfl⟩)
     go_ret
     exact ⟨by rw [H.out]; rfl, rfl⟩
 · have H := Lib.hid (show hldB n = true by unfold hldB; rw [h1]; simp)
   go_enter Tryz.func123, Tryz.ntmps123
   go_wp2_with (go_at_call 95; refine (IsUser_any _ _).mono ?_; rintro e w' ⟨rfl, rfl⟩)
   go_ret
   exact ⟨by rw [H.out]; rfl, rfl⟩
theorem r17hold_any (n : Int) (w : World) : Calls Tryz.prog 77 #[.int .i64 n] w fun e w' => e = .returned (.bool (hldB n)) ∧ w = w' := by
 cases h1 : inB n 10 999
 · by_cases h4 : n = 4
   · subst h4
     go_enter Tryz.func77, Tryz.ntmps77
     go_wp2_with (go_at_call 95; refine (IsUser_any _ _).mono ?_; rintro e w' ⟨rfl, rfl⟩)
     go_ret
     exact ⟨rfl, rfl⟩
   · have k4 : (n == 4) = false := by simpa using h4
     have H := Lib.hid (show hldB n = (n == 5) by unfold hldB; rw [k4, h1]; simp)
     clear h4
     go_enter Tryz.func77, Tryz.ntmps77
     go_wp2_with (go_at_call 95; refine (IsUser_any _ _).mono ?_; rintro e w' ⟨rfl, rfl⟩)
     go_ret
     exact ⟨by rw [H.out]; rfl, rfl⟩
 · have H := Lib.hid (show hldB n = true by unfold hldB; rw [h1]; simp)
   go_enter Tryz.func77, Tryz.ntmps77
   go_wp2_with (go_at_call 95; refine (IsUser_any _ _).mono ?_; rintro e w' ⟨rfl, rfl⟩)
   go_ret
   exact ⟨by rw [H.out]; rfl, rfl⟩
theorem PairErr_any (o g : Int) (w : World) : Calls Tryz.prog 93 #[.int .i64 o, .int .i64 g] w fun e w' => e = .returned (.int .i64 (pairE o g)) ∧ w = w' := by
 cases h1 : hldB o
 · have H := Lib.hid (show pairE o g = 2 by unfold pairE; rw [h1]; rfl)
   go_enter Tryz.func93, Tryz.ntmps93
   go_wp2_with (go_at_call 123; refine (r16hold_any _ _).mono ?_; rintro e w' ⟨rfl, rfl⟩)
   go_ret
   exact ⟨by rw [H.out]; rfl, rfl⟩
 · cases h2 : hldB g
   · have H := Lib.hid (show pairE o g = 2 by unfold pairE; rw [h1, h2]; rfl)
     go_enter Tryz.func93, Tryz.ntmps93
     go_wp2_with (go_at_call 123; refine (r16hold_any _ _).mono ?_; rintro e w' ⟨rfl, rfl⟩)
     go_ret
     exact ⟨by rw [H.out]; rfl, rfl⟩
   · have H := Lib.hid (show pairE o g = 0 by unfold pairE; rw [h1, h2]; rfl)
     go_enter Tryz.func93, Tryz.ntmps93
     go_wp2_with (go_at_call 123; refine (r16hold_any _ _).mono ?_; rintro e w' ⟨rfl, rfl⟩)
     go_ret
     exact ⟨by rw [H.out]; rfl, rfl⟩
theorem maskErr_any (m : Int) (w : World) : Calls Tryz.prog 55 #[.int .i64 m] w fun e w' => e = .returned (.int .i64 (mskE m)) ∧ w = w' := by
 go_enter Tryz.func55, Tryz.ntmps55
 go_wp2_with (first | (go_at_call 88; refine (access_within_any _ _ _ _).mono ?_; rintro e w' ⟨rfl, rfl⟩) | (go_at_call 59; refine (access_unless_any _ _ _).mono ?_; rintro e w' ⟨rfl, rfl⟩))
 go_ret
 exact ⟨rfl, rfl⟩
theorem isCreator_any (n : Int) (w : World) : Calls Tryz.prog 146 #[.int .i64 n] w fun e w' => e = .returned (.bool (n == 2 || n == 3)) ∧ w = w' := by
 by_cases h4 : n = 2
 · subst h4
   go_enter Tryz.func146, Tryz.ntmps146
   go_wp2
   go_ret
   exact ⟨rfl, rfl⟩
 · have k4 : (n == 2) = false := by simpa using h4
   have H := Lib.hid (show (n == 2 || n == 3) = (n == 3) by rw [k4]; rfl)
   clear h4
   go_enter Tryz.func146, Tryz.ntmps146
   go_wp2
   go_ret
   exact ⟨by rw [H.out]; rfl, rfl⟩
end Go.Proofs.YtanicpgmbhfipaaGreatDoor
namespace Go.Proofs.YtanicpgmbhfipaaGreatDoor
set_option linter.unusedVariables false
set_option linter.unusedSimpArgs false
open Go.RowKit Go.Sort
theorem hld_who (n : Int) : hldB n = (whoB n && !(n == 2 || n == 3) && (n != 1)) := by
 by_cases h : inB n 1 5 = true
 · obtain ⟨h1, h2⟩ := inB_true.1 h
   have : n = 1 ∨ n = 2 ∨ n = 3 ∨ n = 4 ∨ n = 5 := by omega
   rcases this with rfl | rfl | rfl | rfl | rfl <;> decide
 · have h0 : inB n 1 5 = false := by simpa using h
   have h' : ¬ (1 ≤ n ∧ n ≤ 5) := fun ⟨a, b⟩ => h (inB_true.2 ⟨a, b⟩)
   have e4 : (n == 4) = false := by rw [beq_eq_false_iff_ne]; omega
   have e5 : (n == 5) = false := by rw [beq_eq_false_iff_ne]; omega
   have e2 : (n == 2) = false := by rw [beq_eq_false_iff_ne]; omega
   have e3 : (n == 3) = false := by rw [beq_eq_false_iff_ne]; omega
   have e1 : (n != 1) = true := by rw [bne_iff_ne]; omega
   unfold hldB whoB
   rw [h0, e4, e5, e2, e3, e1]
   simp
theorem aclHolder_any (n : Int) (w : World) : Calls Tryz.prog 138 #[.int .i64 n] w fun e w' => e = .returned (.bool (hldB n)) ∧ w = w' := by
 have hw := hld_who n
 cases h1 : whoB n
 · have H := Lib.hid (show hldB n = false by rw [hw, h1]; rfl)
   clear hw
   go_enter Tryz.func138, Tryz.ntmps138
   go_wp2_with (first | (go_at_call 126; refine (isIdentity_any _ _).mono ?_; rintro e w' ⟨rfl, rfl⟩) | (go_at_call 146; refine (isCreator_any _ _).mono ?_; rintro e w' ⟨rfl, rfl⟩))
   go_ret
   exact ⟨by rw [H.out]; rfl, rfl⟩
 · cases h2 : (n == 2 || n == 3)
   · have H := Lib.hid (show hldB n = (n != 1) by rw [hw, h1, h2]; rfl)
     have HC := Lib.hid (show ∀ W, Calls Tryz.prog 146 #[.int .i64 n] W fun e w' => e = .returned (.bool false) ∧ W = w' from fun W => by have := isCreator_any n W; rw [h2] at this; exact this)
     clear hw h2
     go_enter Tryz.func138, Tryz.ntmps138
     go_wp2_with (first | (go_at_call 126; refine (isIdentity_any _ _).mono ?_; rintro e w' ⟨rfl, rfl⟩) | (go_at_call 146; refine (HC.out _).mono ?_; rintro e w' ⟨rfl, rfl⟩))
     go_ret
     exact ⟨by rw [H.out]; rfl, rfl⟩
   · have H := Lib.hid (show hldB n = false by rw [hw, h1, h2]; rfl)
     have HC := Lib.hid (show ∀ W, Calls Tryz.prog 146 #[.int .i64 n] W fun e w' => e = .returned (.bool true) ∧ W = w' from fun W => by have := isCreator_any n W; rw [h2] at this; exact this)
     clear hw h2
     go_enter Tryz.func138, Tryz.ntmps138
     go_wp2_with (first | (go_at_call 126; refine (isIdentity_any _ _).mono ?_; rintro e w' ⟨rfl, rfl⟩) | (go_at_call 146; refine (HC.out _).mono ?_; rintro e w' ⟨rfl, rfl⟩))
     go_ret
     exact ⟨by rw [H.out]; rfl, rfl⟩
theorem holdersErr_any (o g : Int) (w : World) : Calls Tryz.prog 109 #[.int .i64 o, .int .i64 g] w fun e w' => e = .returned (.int .i64 (pairE o g)) ∧ w = w' := by
 cases h1 : hldB o
 · have H := Lib.hid (show pairE o g = unl false 2 by unfold pairE; rw [h1]; rfl)
   go_enter Tryz.func109, Tryz.ntmps109
   go_wp2_with (first | (go_at_call 138; refine (aclHolder_any _ _).mono ?_; rintro e w' ⟨rfl, rfl⟩) | (go_at_call 110; refine (acl_unless_any _ _ _).mono ?_; rintro e w' ⟨rfl, rfl⟩))
   go_ret
   exact ⟨by rw [H.out]; rfl, rfl⟩
 · have H := Lib.hid (show pairE o g = unl (hldB g) 2 by unfold pairE; rw [h1]; rfl)
   go_enter Tryz.func109, Tryz.ntmps109
   go_wp2_with (first | (go_at_call 138; refine (aclHolder_any _ _).mono ?_; rintro e w' ⟨rfl, rfl⟩) | (go_at_call 110; refine (acl_unless_any _ _ _).mono ?_; rintro e w' ⟨rfl, rfl⟩))
   go_ret
   exact ⟨by rw [H.out]; rfl, rfl⟩
theorem aceR_cases (a : AceP) : aceR a = (if inB a.f 0 31 = true then (if inB a.m 1 511 = true then whoB a.w else false) else false) := by
 unfold aceR
 cases inB a.f 0 31 <;> cases inB a.m 1 511 <;> simp
theorem CheckAce_any (a : AceP) (w : World) : Calls Tryz.prog 98 #[.agg #[.int .i64 a.k, .int .i64 a.f, .int .i64 a.m, .int .i64 a.w]] w fun e w' => e = .returned (.int .i64 (aceE a)) ∧ Below w.heap.size w w' := by
 have he := aceE_first a
 have hr := aceR_cases a
 obtain ⟨k, f, m, h⟩ := a
 dsimp only at he hr ⊢
 obtain ⟨E, hE⟩ : ∃ E, E = aceE ⟨k, f, m, h⟩ := ⟨_, rfl⟩
 obtain ⟨R, hR⟩ : ∃ R, R = aceR ⟨k, f, m, h⟩ := ⟨_, rfl⟩
 rw [← hE, ← hR] at he
 rw [← hR] at hr
 rw [← hE]
 have HF : ∀ W : World, Calls Tryz.prog 103 #[.slice (some ⟨W.heap.size, 0, none⟩) 2 2] (W.alloc (.cells #[.int .i64 (unl (inB k 0 2) 15), .int .i64 (unl R 2)] 30)) fun e w' => e = .returned (.int .i64 E) ∧ W.alloc (.cells #[.int .i64 (unl (inB k 0 2) 15), .int .i64 (unl R 2)] 30) = w' := fun W => by
  have := acl_first_list [unl (inB k 0 2) 15, unl R 2] W (by simp)
  rw [he] at this
  exact this
 clear he hE hR
 cases h1 : inB f 0 31
 · obtain rfl : R = false := by rw [hr, h1]; rfl
   have HF1 := HF (w.alloc (.cells #[.int .i64 k, .int .i64 f, .int .i64 m, .int .i64 h] 111))
   rw [World.size_alloc] at HF1
   have HF := Lib.hid HF1
   clear HF1
   clear hr
   go_enter Tryz.func98, Tryz.ntmps98
   go_wp2_with (first | (go_at_call 125; refine (acl_within_any _ _ _ _).mono ?_; rintro e w' ⟨rfl, rfl⟩) | (go_at_call 126; refine (isIdentity_any _ _).mono ?_; rintro e w' ⟨rfl, rfl⟩) | (go_at_call 110; refine (acl_unless_any _ _ _).mono ?_; rintro e w' ⟨rfl, rfl⟩) | (go_at_call 103; refine (HF.out).mono ?_; rintro e w' ⟨rfl, rfl⟩))
   go_ret
   exact ⟨rfl, bel_alloc (bel_alloc (Below.refl _ _) _) _⟩
 · cases h2 : inB m 1 511
   · obtain rfl : R = false := by rw [hr, h1, h2]; rfl
     have HF1 := HF (w.alloc (.cells #[.int .i64 k, .int .i64 f, .int .i64 m, .int .i64 h] 111))
     rw [World.size_alloc] at HF1
     have HF := Lib.hid HF1
     clear HF1
     clear hr
     go_enter Tryz.func98, Tryz.ntmps98
     go_wp2_with (first | (go_at_call 125; refine (acl_within_any _ _ _ _).mono ?_; rintro e w' ⟨rfl, rfl⟩) | (go_at_call 126; refine (isIdentity_any _ _).mono ?_; rintro e w' ⟨rfl, rfl⟩) | (go_at_call 110; refine (acl_unless_any _ _ _).mono ?_; rintro e w' ⟨rfl, rfl⟩) | (go_at_call 103; refine (HF.out).mono ?_; rintro e w' ⟨rfl, rfl⟩))
     go_ret
     exact ⟨rfl, bel_alloc (bel_alloc (Below.refl _ _) _) _⟩
   · obtain rfl : R = whoB h := by rw [hr, h1, h2]; rfl
     have HF1 := HF (w.alloc (.cells #[.int .i64 k, .int .i64 f, .int .i64 m, .int .i64 h] 111))
     rw [World.size_alloc] at HF1
     have HF := Lib.hid HF1
     clear HF1
     clear hr
     go_enter Tryz.func98, Tryz.ntmps98
     go_wp2_with (first | (go_at_call 125; refine (acl_within_any _ _ _ _).mono ?_; rintro e w' ⟨rfl, rfl⟩) | (go_at_call 126; refine (isIdentity_any _ _).mono ?_; rintro e w' ⟨rfl, rfl⟩) | (go_at_call 110; refine (acl_unless_any _ _ _).mono ?_; rintro e w' ⟨rfl, rfl⟩) | (go_at_call 103; refine (HF.out).mono ?_; rintro e w' ⟨rfl, rfl⟩))
     go_ret
     exact ⟨rfl, bel_alloc (bel_alloc (Below.refl _ _) _) _⟩
theorem AceErr_any (a : AceP) (w : World) : Calls Tryz.prog 94 #[.agg #[.int .i64 a.k, .int .i64 a.f, .int .i64 a.m, .int .i64 a.w]] w fun e w' => e = .returned (.int .i64 (aceE a)) ∧ Below w.heap.size w w' := by
 have hr := aceR_cases a
 have he : aceE a = if inB a.k 0 2 = true then (if aceR a = true then 0 else 2) else 15 := rfl
 obtain ⟨k, f, m, h⟩ := a
 dsimp only at hr he ⊢
 obtain ⟨E, hE⟩ : ∃ E, E = aceE ⟨k, f, m, h⟩ := ⟨_, rfl⟩
 rw [hr] at he
 rw [← hE] at he ⊢
 clear hr hE
 cases h0 : inB k 0 2 <;> cases h1 : inB f 0 31 <;> cases h2 : inB m 1 511 <;> cases h3 : whoB h
 all_goals
  rw [h0, h1, h2, h3] at he
  have HE := Lib.hid he
  clear he
  go_enter Tryz.func94, Tryz.ntmps94
  go_wp2_with (first | (go_at_call 58; refine (Within_any _ _ _ _).mono ?_; rintro e w' ⟨rfl, rfl⟩) | (go_at_call 124; refine (IsWho_any _ _).mono ?_; rintro e w' ⟨rfl, rfl⟩))
  go_ret
  exact ⟨by rw [HE.out]; rfl, bel_alloc (Below.refl _ _) _⟩
end Go.Proofs.YtanicpgmbhfipaaGreatDoor
namespace Go.Proofs.YtanicpgmbhfipaaGreatDoor
set_option linter.unusedVariables false
set_option linter.unusedSimpArgs false
open Go.RowKit Go.Sort
def ErrsI (B : Nat) (es : List Int) (v : Value) (X : World) : Prop := ∃ b, v = .slice (some ⟨b, 0, none⟩) es.length es.length ∧ B ≤ b ∧ X.heap[b]? = some (.cells (es.map (Value.int .i64)).toArray 30 (0, 0))
theorem ErrsI.stable {B : Nat} {es : List Int} (v : Value) (X X' : World) (h : ErrsI B es v X) (hb : Below X.heap.size X X') : ErrsI B es v X' := by
 obtain ⟨b, h1, h2, h3⟩ := h
 exact ⟨b, h1, h2, (hb.block b (Array.getElem?_eq_some_iff.1 h3).1).trans h3⟩
def IntV (n : Int) (v : Value) (X : World) : Prop := v = .int .i64 n
theorem IntV.stable {n : Int} (v : Value) (X X' : World) (h : IntV n v X) (hb : Below X.heap.size X X') : IntV n v X' := h
theorem leaves_alloc' {P : Program} {R : Value → World → Prop} {X : World} {s : Sem Next} {v : Value} {obj : Obj} (h : s.run P X = .ok (.value v) (X.alloc obj)) (hR : R v (X.alloc obj)) : LeavesR P R X (s.run P X) := by
 rw [h]; exact ⟨(Below.refl _ _).alloc (Nat.le_refl _) _, hR⟩
theorem leaves_call' {P : Program} {R : Value → World → Prop} {X : World} {s : Sem Next} {f : FuncId} {args : Array Value} (h : s.run P X = .ok (.enter f args) X)
 (hc : Calls P f args X (fun e X' => ∃ v, e = .returned v ∧ Below X.heap.size X X' ∧ R v X')) : LeavesR P R X (s.run P X) := by
 rw [h]; exact ⟨rfl, hc⟩
theorem access_first_errs {B : Nat} {X : World} (es : List Int) (hl : es.length ≤ 100) {v : Value} (hv : ErrsI B es v X) : Calls Tryz.prog 51 #[v] X (fun e X' => ∃ v, e = .returned v ∧ Below X.heap.size X X' ∧ IntV (firstE es) v X') := by
 obtain ⟨b, rfl, _, hb⟩ := hv
 refine (access_first_any b 0 es X hl fun k hk => ?_).mono fun e w' ⟨h1, h2⟩ => ⟨_, h1, by rw [← h2]; exact Below.refl _ _, rfl⟩
 simp [World.cell?, hb, hk]
theorem acl_first_errs {B : Nat} {X : World} (es : List Int) (hl : es.length ≤ 100) {v : Value} (hv : ErrsI B es v X) : Calls Tryz.prog 103 #[v] X (fun e X' => ∃ v, e = .returned v ∧ Below X.heap.size X X' ∧ IntV (firstE es) v X') := by
 obtain ⟨b, rfl, _, hb⟩ := hv
 refine (acl_first_any b 0 es X hl fun k hk => ?_).mono fun e w' ⟨h1, h2⟩ => ⟨_, h1, by rw [← h2]; exact Below.refl _ _, rfl⟩
 simp [World.cell?, hb, hk]
theorem entE_first (n i : Nat) (a : AceP) : firstE [aceE a, unl ((a.k == 2) == decide (n ≤ i)) 15] = entE n i a := by
 unfold entE firstE
 by_cases h : aceE a = 0
 · rw [if_pos h, if_neg (by simpa using h)]
   unfold firstE
   split
   · rename_i h2; rw [h2]; rfl
   · rfl
 · rw [if_neg h, if_pos h]
set_option maxRecDepth 100000 in
set_option maxHeartbeats 1000000 in
theorem CheckDsc1_any (D n c : Nat) (A : Option Addr) (i : Nat) (a : AceP) (w : World) (hD : D < w.heap.size) (hc : w.cell? ⟨D, 4, none⟩ = some (.slice A n c)) (hn : n ≤ 1000) (hi : i ≤ 1000) :
 Calls Tryz.prog 112 #[.int .i64 i, .agg #[.int .i64 a.k, .int .i64 a.f, .int .i64 a.m, .int .i64 a.w], .pointer (some ⟨D, 0, none⟩)] w fun e w' => e = .returned (.int .i64 (entE n i a)) ∧ Below w.heap.size w w' := by
 have HF := Lib.hid (entE_first n i a)
 have HA := Lib.hid (fun W => CheckAce_any a W)
 obtain ⟨e1, he1⟩ : ∃ e, e = aceE a := ⟨_, rfl⟩
 obtain ⟨r, hr⟩ : ∃ r, r = entE n i a := ⟨_, rfl⟩
 rw [← he1] at HF HA
 rw [← hr] at HF ⊢
 clear he1 hr
 obtain ⟨k, f, m, h⟩ := a
 dsimp only at HF HA ⊢
 have HU := Lib.hid (fun W => acl_unless_any ((k == 2) == decide (n ≤ i)) 15 W)
 obtain ⟨e2, he2⟩ : ∃ e, e = unl ((k == 2) == decide (n ≤ i)) 15 := ⟨_, rfl⟩
 rw [← he2] at HF HU
 clear he2
 have hdi : decide ((n : Int) ≤ i) = decide (n ≤ i) := by simp
 go_enter Tryz.func112, Tryz.ntmps112
 go_wp2
 (refine wp_region_flow [false, false, false, false, false, false, false, false, false, false, false, false, true, true] [⟨12, [], ErrsI w.heap.size [e1, e2], false⟩, ⟨13, [12], IntV r, false⟩] (by kernel_rfl) (by kernel_rfl) (by kernel_rfl) (by kernel_rfl) ?_; simp only [pick, List.length_cons, List.length_nil, List.drop_succ_cons, List.drop_zero, Nat.zero_add, Nat.reduceAdd]; apply Exists.intro; refine ⟨fun X hX => ?_, ?_⟩; (focus (obtain ⟨hcX, hfX⟩ := bcell hX; have hgX := regcell hX; have hsX := hX.size; (try simp only [World.size_alloc] at hsX); (repeat (go_big_quiet_step ((first | (go_at_call 98; (with_reducible exact Calls.regrown_of (HA.out _))) | (go_at_call 110; (with_reducible exact Calls.reg_pure (HU.out _))))))); exact wpQuiet_nil rfl)); simp only [wpND, told, toldAll, List.contains_cons, List.contains_nil, List.mem_cons, List.not_mem_nil, forall_eq_or_imp, false_implies, implies_true, and_true, Nat.reduceBEq, BEq.rfl, beq_self_eq_true, Bool.or_false, Bool.false_or, Bool.true_or, Bool.or_true, Bool.false_eq_true, if_true, if_false, true_implies, dstAt, List.getElem?_toArray, List.getElem?_cons_succ, List.getElem?_cons_zero, Option.some.injEq, forall_eq', Option.bind_some, Act.put, List.setIfInBounds_toArray, List.set_cons_succ, List.set_cons_zero])
 refine ⟨ErrsI.stable, fun X hX => ?_, fun v1 => ⟨IntV.stable, fun X hX hf => ?_, fun v2 X hX hf => ?_⟩⟩
 · exact leaves_alloc' (v := .slice (some ⟨X.heap.size, 0, none⟩) 2 2) (obj := .cells #[.int .i64 e1, .int .i64 e2] 30) (by kernel_rfl) ⟨X.heap.size, rfl, by have := hX.size; simp at this; omega, heap_alloc_new _ _⟩
 · refine leaves_call' (f := 103) (args := #[v1]) (by kernel_rfl) ?_
   rw [← HF.out]
   exact acl_first_errs [e1, e2] (by simp) hf
 · obtain ⟨h2v, _⟩ := hf
   obtain rfl : v2 = .int .i64 r := h2v
   go_wp2
   go_ret
   exact ⟨rfl, (bel_alloc (Below.refl _ _) _).trans (hX.mono (by simp))⟩
end Go.Proofs.YtanicpgmbhfipaaGreatDoor
namespace Go.Proofs.YtanicpgmbhfipaaGreatDoor
set_option linter.unusedVariables false
set_option linter.unusedSimpArgs false
open Go.RowKit Go.Sort
set_option maxRecDepth 100000 in
set_option maxHeartbeats 2000000 in
theorem eachDsc_any (A AE : Option Addr) (c cE D n : Nat) (l : List AceP) (w : World) (hlen : l.length ≤ 1000) (hr : Rd w w.heap.size A (acesV l)) (hD : D < w.heap.size) (hc : w.cell? ⟨D, 4, none⟩ = some (.slice AE n cE)) (hn : n ≤ 1000) :
 Calls Tryz.prog 96 #[.slice A l.length c, .func (.func 112) #[] #[.pointer (some ⟨D, 0, none⟩)]] w fun e w' =>
  e = .returned (.tuple #[.int .i64 (eachE (entE n) 0 l).1, .int .i64 (eachE (entE n) 0 l).2]) ∧ Below w.heap.size w w' := by
 have HC := Lib.hid (fun (i : Nat) (hi : i ≤ 1000) (a : AceP) (W : World) (hW : Below w.heap.size w W) => CheckDsc1_any D n cE AE i a W (by have := hW.size; omega) ((hW.cell (p := ⟨D, 4, none⟩) hD).trans hc) hn hi)
 clear hc
 go_enter Tryz.func96, Tryz.ntmps96
 go_wp2
 go_loopw [11] (fun i wr => ∃ k : Nat, k ≤ l.length ∧ i = .int .i64 k ∧ Below w.heap.size w wr ∧ eachE (entE n) 0 l = eachE (entE n) k (l.drop k)) (fun i _ => l.length - (intOf i).toNat)
 case atStart => exact ⟨0, Nat.zero_le _, rfl, Below.refl _ _, rfl⟩
 case round =>
  obtain ⟨k, hk, rfl, hb, hf⟩ := hrel
  have HF := Lib.hid hf
  clear hf
  by_cases hlt : k < l.length
  · have hr2 := hr.below hb
    obtain ⟨b, o, rfl, hB, hc⟩ := hr2.opened (by rw [acesV_length]; omega)
    obtain ⟨g0, g1, g2, g3⟩ := acesV_get l k hlt
    have c0 : wr.cell? ⟨b, o + k * 4, none⟩ = _ := hc _ _ g0
    have c1 : wr.cell? ⟨b, o + k * 4 + 1, none⟩ = _ := hc _ _ g1
    have c2 : wr.cell? ⟨b, o + k * 4 + 1 + 1, none⟩ = _ := hc _ _ g2
    have c3 : wr.cell? ⟨b, o + k * 4 + 1 + 1 + 1, none⟩ = _ := hc _ _ g3
    obtain ⟨a, ha⟩ : ∃ a, a = l[k] := ⟨_, rfl⟩
    rw [← ha] at c0 c1 c2 c3
    have hd : l.drop k = l[k] :: l.drop (k + 1) := List.drop_eq_getElem_cons hlt
    rw [← ha] at hd
    have HD := Lib.hid hd
    have hbs := hb.size
    obtain ⟨r, hre⟩ : ∃ r, r = entE n k a := ⟨_, rfl⟩
    have HC2 := Lib.hid (fun W (hW : Below w.heap.size w W) => HC.out k (by omega) a W hW)
    rw [← hre] at HC2
    obtain ⟨ak, af, am, aw⟩ := a
    dsimp only at c0 c1 c2 c3 HC2
    have HRE := Lib.hid hre
    clear hd ha g0 g1 g2 g3 hc hr hr2 hre
    by_cases h0 : r = 0
    · subst h0
      go_wp2_with (go_at_call 112; refine (HC2.out _ (bel_alloc hb _)).mono ?_; rintro e w1 ⟨rfl, hb1⟩)
      go_roundw
      case rel => exact ⟨k + 1, by omega, by go_num, bel_trans (bel_alloc hb _) hb1, by rw [HF.out, HD.out, eachE, if_pos HRE.out.symm]⟩
      case measure => simp [intOf]; omega
    · have h0' : (r != 0) = true := by simp [h0]
      have H0 := Lib.hid h0
      clear h0
      go_wp2_with (go_at_call 112; refine (HC2.out _ (bel_alloc hb _)).mono ?_; rintro e w1 ⟨rfl, hb1⟩)
      go_ret2
      have e : eachE (entE n) 0 l = ((k : Int), r) := by rw [HF.out, HD.out, eachE, if_neg (by rw [← HRE.out]; exact H0.out), ← HRE.out]
      exact ⟨retII (by rw [e]) (by rw [e]), bel_trans (bel_alloc hb _) hb1⟩
  · go_wp2
    go_ret2
    exact ⟨retII (by rw [HF.out, List.drop_of_length_le (by omega)]; rfl) (by rw [HF.out, List.drop_of_length_le (by omega)]; rfl), hb⟩
end Go.Proofs.YtanicpgmbhfipaaGreatDoor
namespace Go.Proofs.YtanicpgmbhfipaaGreatDoor
set_option linter.unusedVariables false
set_option linter.unusedSimpArgs false
open Go.RowKit Go.Sort
theorem infoAce : (Tryz.prog.info? 111).map (fun i => (i.zero, i.size, i.bytes)) = some (some (.agg #[.int .i64 0, .int .i64 0, .int .i64 0, .int .i64 0]), 4, 32) := by kernel_rfl
theorem infoInt : (Tryz.prog.info? 3).map (fun i => (i.zero, i.size, i.bytes)) = some (some (.int .i64 0), 1, 8) := by kernel_rfl
set_option maxRecDepth 100000 in
theorem ace_Grow (n : Nat) (w : World) (hn : n ≤ 100000) :
 Calls Tryz.prog 139 #[.slice none 0 0, .int .i64 n] w fun e w' => ∃ A c, e = .returned (.slice A 0 c) ∧ w'.ownsRow w.heap.size 111 4 (.slice A 0 c) 0 [] ∧ Below w.heap.size w w' := by
 obtain ⟨i0, hi, hz0, hz1, hz2⟩ := info_parts infoAce
 by_cases h0 : n = 0
 · subst h0
   go_enter Tryz.func139, Tryz.ntmps139
   go_wp2
   go_ret
   exact ⟨none, 0, rfl, World.ownsRow_nil _ _ _ _, Below.refl _ _⟩
 · have hn0 : (0 : Int) < n := by omega
   have hgr := growslice_fits (old := 0) (need := n) (bytes := i0.bytes) (by omega) (by rw [hz2]; omega)
   have hr := fun ty => Lib.run_append_grow_zeros (P := Tryz.prog) w 22 3 ty 111 i0 _ .i64 .i64 Tryz.underlying22 Tryz.underlying3 hi hz0 none 0 0 [] (run_firstCells_none w.drew i0.size 0 0 0) n (by omega) (by rw [hz1]; omega) (by omega) (by omega) (by rw [hz2]; omega) (by rw [Nat.zero_add]; exact hgr)
   simp only [Nat.zero_add, List.nil_append] at hr
   obtain ⟨G, hG⟩ : ∃ G, G = grownCap w n 0 111 := ⟨_, rfl⟩
   have hGn : n ≤ G := by rw [hG]; exact grownCap_ge w _ _ _
   have hGm : G ≤ maxLen := by rw [hG]; exact grownCap_le_maxLen w _ _ _ (by unfold maxLen; omega)
   rw [← hG] at hr
   obtain ⟨W1, hW1⟩ : ∃ W1, W1 = w.drew.alloc (.cells ((#[] : Array Value) ++ Builtin.zeroCells (Value.agg #[.int .i64 0, .int .i64 0, .int .i64 0, .int .i64 0]).cells n ++ Builtin.zeroCells (Value.agg #[.int .i64 0, .int .i64 0, .int .i64 0, .int .i64 0]).cells (G - n)) 111) := ⟨_, rfl⟩
   rw [← hW1] at hr
   have hbel : Below w.heap.size w W1 := by rw [hW1]; exact (Below.refl _ w).drew.alloc (Nat.le_refl _) _
   have hown : W1.ownsRow w.heap.size 111 4 (.slice (some ⟨w.heap.size, 0, none⟩) 0 G) 0 [] := by
    refine ⟨by simp, .inr ⟨w.heap.size, G, _, rfl, Nat.le_refl _, by rw [hW1]; exact heap_alloc_new w.drew _, Nat.zero_le _, hGm, ?_, by simp⟩⟩
    simp only [Array.size_append, Array.size_empty, size_zeroCells]
    show 0 + n * 4 + (G - n) * 4 = G * 4
    omega
   have HOWN := Lib.hid hown
   unfold maxLen at hGm
   clear hW1 hG hown hgr hz0 hz1 hz2 hi
   go_enter Tryz.func139, Tryz.ntmps139
   go_wp2_with (at_builtin; refine Lib.wpList_append_run _ rfl _ _ _ _ rfl _ _ rfl rfl _ _ (hr _) ?_)
   go_ret
   exact ⟨_, _, rfl, HOWN.out, hbel⟩
set_option maxRecDepth 100000 in
set_option maxHeartbeats 2000000 in
theorem ace_Concat (b n1 c1 n2 c2 : Nat) (A1 A2 : Option Addr) (xs1 xs2 : List Value) (w : World) (hb : b < w.heap.size) (h1 : w.cell? ⟨b, 0, none⟩ = some (.slice A1 n1 c1)) (h2 : w.cell? ⟨b, 1, none⟩ = some (.slice A2 n2 c2))
 (hl1 : xs1.length = n1 * 4) (hl2 : xs2.length = n2 * 4) (hr1 : Rd w w.heap.size A1 xs1) (hr2 : Rd w w.heap.size A2 xs2) (o1 : ∀ u ∈ xs1, u.oneCell' = true) (o2 : ∀ u ∈ xs2, u.oneCell' = true) (hn1 : n1 ≤ 1000) (hn2 : n2 ≤ 1000) :
 Calls Tryz.prog 111 #[.slice (some ⟨b, 0, none⟩) 2 2] w fun e w' => ∃ A c, e = .returned (.slice A (n1 + n2) c) ∧ w'.ownsRow w.heap.size 111 4 (.slice A (n1 + n2) c) (n1 + n2) (xs1 ++ xs2) ∧ Below w.heap.size w w' := by
 obtain ⟨i0, hi, hz0, hz1, hz2⟩ := info_parts infoAce
 have HR1 := Lib.hid hr1
 have HR2 := Lib.hid hr2
 clear hr1 hr2
 go_enter Tryz.func111, Tryz.ntmps111
 go_wp2
 go_loop [3, 11] (fun sz i => (i = .int .i64 0 ∧ sz = .int .i64 0) ∨ (i = .int .i64 1 ∧ sz = .int .i64 n1) ∨ (i = .int .i64 2 ∧ sz = .int .i64 ((n1 + n2 : Nat) : Int))) (fun _ i => 2 - (intOf i).toNat)
 case atStart => exact .inl ⟨rfl, rfl⟩
 case round =>
  rcases hrel with ⟨rfl, rfl⟩ | ⟨rfl, rfl⟩ | ⟨rfl, rfl⟩
  · go_wp2
    go_round
    case rel => exact .inr (.inl ⟨rfl, rfl⟩)
    case measure => simp [intOf]
  · go_wp2
    go_round
    case rel => exact .inr (.inr ⟨rfl, by go_num⟩)
    case measure => simp [intOf]
  · have HG := Lib.hid (ace_Grow (n1 + n2) w (by omega))
    obtain ⟨N, hN⟩ : ∃ N, N = n1 + n2 := ⟨_, rfl⟩
    rw [← hN] at HG ⊢
    have hNb : N ≤ 2000 := by omega
    have HN := Lib.hid hN
    clear hN
    go_wp2_with (go_at_call 139; refine HG.out.mono ?_; rintro e W1 ⟨A0, c0, rfl, hown0, hb1⟩; obtain ⟨hcb1, hfb1⟩ := bcell hb1)
    have HOWN0 := Lib.hid hown0
    clear hown0 HG hcb1 hfb1
    go_loopw [6, 27] (fun v i wr => Below w.heap.size w wr ∧ ((i = .int .i64 0 ∧ ∃ A c, v = .slice A 0 c ∧ wr.ownsRow w.heap.size 111 4 (.slice A 0 c) 0 []) ∨ (i = .int .i64 1 ∧ ∃ A c, v = .slice A n1 c ∧ wr.ownsRow w.heap.size 111 4 (.slice A n1 c) n1 xs1) ∨ (i = .int .i64 2 ∧ ∃ A c, v = .slice A (n1 + n2) c ∧ wr.ownsRow w.heap.size 111 4 (.slice A (n1 + n2) c) (n1 + n2) (xs1 ++ xs2)))) (fun _ i _ => 2 - (intOf i).toNat)
    case atStart => exact ⟨hb1, .inl ⟨rfl, _, _, rfl, HOWN0.out⟩⟩
    case round =>
     obtain ⟨hbr, hcase⟩ := hrel
     have hd1 : wr.cell? ⟨b, 0, none⟩ = some (.slice A1 n1 c1) := (hbr.cell (p := ⟨b, 0, none⟩) hb).trans h1
     have hd2 : wr.cell? ⟨b, 1, none⟩ = some (.slice A2 n2 c2) := (hbr.cell (p := ⟨b, 1, none⟩) hb).trans h2
     have hbs := hbr.size
     have hR1 : Rd wr wr.heap.size A1 xs1 := HR1.out.below' hbr
     have hR2 : Rd wr wr.heap.size A2 xs2 := HR2.out.below' hbr
     rcases hcase with ⟨rfl, A, c, rfl, hown⟩ | ⟨rfl, A, c, rfl, hown⟩ | ⟨rfl, A, c, rfl, hown⟩
     · go_wp2_with (at_builtin; refine wpList_append_rd _ rfl (.tmp 31) (.tmp 32) 22 rfl w.heap.size 111 i0 _ 4 32 Tryz.underlying22 hi hz0 hz1 hz2 rfl (by decide) (.slice A 0 c) 0 _ rfl hown wr.heap.size A1 n1 c1 xs1 rfl hl1 hR1 o1 (by unfold maxLen; omega) (by omega) hbs ?_; intro v' w1 hown1 hgrow hvb hbel; obtain ⟨A', c', rfl, _⟩ := ownsRow_form hown1)
       go_roundw
       case rel =>
        rw [Nat.zero_add, List.nil_append] at hown1
        exact ⟨hbr.trans hbel, .inr (.inl ⟨rfl, A', c', rfl, hown1⟩)⟩
       case measure => simp [intOf]
     · go_wp2_with (at_builtin; refine wpList_append_rd _ rfl (.tmp 31) (.tmp 32) 22 rfl w.heap.size 111 i0 _ 4 32 Tryz.underlying22 hi hz0 hz1 hz2 rfl (by decide) (.slice A n1 c) n1 _ rfl hown wr.heap.size A2 n2 c2 xs2 rfl hl2 hR2 o2 (by unfold maxLen; omega) (by omega) hbs ?_; intro v' w1 hown1 hgrow hvb hbel; obtain ⟨A', c', rfl, _⟩ := ownsRow_form hown1)
       go_roundw
       case rel => exact ⟨hbr.trans hbel, .inr (.inr ⟨rfl, A', c', rfl, hown1⟩)⟩
       case measure => simp [intOf]
     · go_wp2
       go_ret
       exact ⟨A, c, rfl, hown, hbr⟩
set_option maxRecDepth 100000 in
theorem int_Grow (n : Nat) (w : World) (hn : n ≤ 100000) :
 Calls Tryz.prog 117 #[.slice none 0 0, .int .i64 n] w fun e w' => ∃ A c, e = .returned (.slice A 0 c) ∧ w'.ownsRow w.heap.size 3 1 (.slice A 0 c) 0 [] ∧ Below w.heap.size w w' := by
 obtain ⟨i0, hi, hz0, hz1, hz2⟩ := info_parts infoInt
 by_cases h0 : n = 0
 · subst h0
   go_enter Tryz.func117, Tryz.ntmps117
   go_wp2
   go_ret
   exact ⟨none, 0, rfl, World.ownsRow_nil _ _ _ _, Below.refl _ _⟩
 · have hn0 : (0 : Int) < n := by omega
   have hgr := growslice_fits (old := 0) (need := n) (bytes := i0.bytes) (by omega) (by rw [hz2]; omega)
   have hr := fun ty => Lib.run_append_grow_zeros (P := Tryz.prog) w 25 3 ty 3 i0 _ .i64 .i64 Tryz.underlying25 Tryz.underlying3 hi hz0 none 0 0 [] (run_firstCells_none w.drew i0.size 0 0 0) n (by omega) (by rw [hz1]; omega) (by omega) (by omega) (by rw [hz2]; omega) (by rw [Nat.zero_add]; exact hgr)
   simp only [Nat.zero_add, List.nil_append] at hr
   obtain ⟨G, hG⟩ : ∃ G, G = grownCap w n 0 3 := ⟨_, rfl⟩
   have hGn : n ≤ G := by rw [hG]; exact grownCap_ge w _ _ _
   have hGm : G ≤ maxLen := by rw [hG]; exact grownCap_le_maxLen w _ _ _ (by unfold maxLen; omega)
   rw [← hG] at hr
   obtain ⟨W1, hW1⟩ : ∃ W1, W1 = w.drew.alloc (.cells ((#[] : Array Value) ++ Builtin.zeroCells (Value.int .i64 0).cells n ++ Builtin.zeroCells (Value.int .i64 0).cells (G - n)) 3) := ⟨_, rfl⟩
   rw [← hW1] at hr
   have hbel : Below w.heap.size w W1 := by rw [hW1]; exact (Below.refl _ w).drew.alloc (Nat.le_refl _) _
   have hown : W1.ownsRow w.heap.size 3 1 (.slice (some ⟨w.heap.size, 0, none⟩) 0 G) 0 [] := by
    refine ⟨by simp, .inr ⟨w.heap.size, G, _, rfl, Nat.le_refl _, by rw [hW1]; exact heap_alloc_new w.drew _, Nat.zero_le _, hGm, ?_, by simp⟩⟩
    simp only [Array.size_append, Array.size_empty, size_zeroCells]
    show 0 + n * 1 + (G - n) * 1 = G * 1
    omega
   have HOWN := Lib.hid hown
   unfold maxLen at hGm
   clear hW1 hG hown hgr hz0 hz1 hz2 hi
   go_enter Tryz.func117, Tryz.ntmps117
   go_wp2_with (at_builtin; refine Lib.wpList_append_run _ rfl _ _ _ _ rfl _ _ rfl rfl _ _ (hr _) ?_)
   go_ret
   exact ⟨_, _, rfl, HOWN.out, hbel⟩
set_option maxRecDepth 100000 in
set_option maxHeartbeats 2000000 in
theorem int_Concat (b n1 c1 n2 c2 : Nat) (A1 A2 : Option Addr) (xs1 xs2 : List Value) (w : World) (hb : b < w.heap.size) (h1 : w.cell? ⟨b, 0, none⟩ = some (.slice A1 n1 c1)) (h2 : w.cell? ⟨b, 1, none⟩ = some (.slice A2 n2 c2))
 (hl1 : xs1.length = n1 * 1) (hl2 : xs2.length = n2 * 1) (hr1 : Rd w w.heap.size A1 xs1) (hr2 : Rd w w.heap.size A2 xs2) (o1 : ∀ u ∈ xs1, u.oneCell' = true) (o2 : ∀ u ∈ xs2, u.oneCell' = true) (hn1 : n1 ≤ 1000) (hn2 : n2 ≤ 1000) :
 Calls Tryz.prog 91 #[.slice (some ⟨b, 0, none⟩) 2 2] w fun e w' => ∃ A c, e = .returned (.slice A (n1 + n2) c) ∧ w'.ownsRow w.heap.size 3 1 (.slice A (n1 + n2) c) (n1 + n2) (xs1 ++ xs2) ∧ Below w.heap.size w w' := by
 obtain ⟨i0, hi, hz0, hz1, hz2⟩ := info_parts infoInt
 have HR1 := Lib.hid hr1
 have HR2 := Lib.hid hr2
 clear hr1 hr2
 go_enter Tryz.func91, Tryz.ntmps91
 go_wp2
 go_loop [3, 11] (fun sz i => (i = .int .i64 0 ∧ sz = .int .i64 0) ∨ (i = .int .i64 1 ∧ sz = .int .i64 n1) ∨ (i = .int .i64 2 ∧ sz = .int .i64 ((n1 + n2 : Nat) : Int))) (fun _ i => 2 - (intOf i).toNat)
 case atStart => exact .inl ⟨rfl, rfl⟩
 case round =>
  rcases hrel with ⟨rfl, rfl⟩ | ⟨rfl, rfl⟩ | ⟨rfl, rfl⟩
  · go_wp2
    go_round
    case rel => exact .inr (.inl ⟨rfl, rfl⟩)
    case measure => simp [intOf]
  · go_wp2
    go_round
    case rel => exact .inr (.inr ⟨rfl, by go_num⟩)
    case measure => simp [intOf]
  · have HG := Lib.hid (int_Grow (n1 + n2) w (by omega))
    obtain ⟨N, hN⟩ : ∃ N, N = n1 + n2 := ⟨_, rfl⟩
    rw [← hN] at HG ⊢
    have hNb : N ≤ 2000 := by omega
    have HN := Lib.hid hN
    clear hN
    go_wp2_with (go_at_call 117; refine HG.out.mono ?_; rintro e W1 ⟨A0, c0, rfl, hown0, hb1⟩; obtain ⟨hcb1, hfb1⟩ := bcell hb1)
    have HOWN0 := Lib.hid hown0
    clear hown0 HG hcb1 hfb1
    go_loopw [6, 27] (fun v i wr => Below w.heap.size w wr ∧ ((i = .int .i64 0 ∧ ∃ A c, v = .slice A 0 c ∧ wr.ownsRow w.heap.size 3 1 (.slice A 0 c) 0 []) ∨ (i = .int .i64 1 ∧ ∃ A c, v = .slice A n1 c ∧ wr.ownsRow w.heap.size 3 1 (.slice A n1 c) n1 xs1) ∨ (i = .int .i64 2 ∧ ∃ A c, v = .slice A (n1 + n2) c ∧ wr.ownsRow w.heap.size 3 1 (.slice A (n1 + n2) c) (n1 + n2) (xs1 ++ xs2)))) (fun _ i _ => 2 - (intOf i).toNat)
    case atStart => exact ⟨hb1, .inl ⟨rfl, _, _, rfl, HOWN0.out⟩⟩
    case round =>
     obtain ⟨hbr, hcase⟩ := hrel
     have hd1 : wr.cell? ⟨b, 0, none⟩ = some (.slice A1 n1 c1) := (hbr.cell (p := ⟨b, 0, none⟩) hb).trans h1
     have hd2 : wr.cell? ⟨b, 1, none⟩ = some (.slice A2 n2 c2) := (hbr.cell (p := ⟨b, 1, none⟩) hb).trans h2
     have hbs := hbr.size
     have hR1 : Rd wr wr.heap.size A1 xs1 := HR1.out.below' hbr
     have hR2 : Rd wr wr.heap.size A2 xs2 := HR2.out.below' hbr
     rcases hcase with ⟨rfl, A, c, rfl, hown⟩ | ⟨rfl, A, c, rfl, hown⟩ | ⟨rfl, A, c, rfl, hown⟩
     · go_wp2_with (at_builtin; refine wpList_append_rd _ rfl (.tmp 31) (.tmp 32) 25 rfl w.heap.size 3 i0 _ 1 8 Tryz.underlying25 hi hz0 hz1 hz2 rfl (by decide) (.slice A 0 c) 0 _ rfl hown wr.heap.size A1 n1 c1 xs1 rfl hl1 hR1 o1 (by unfold maxLen; omega) (by omega) hbs ?_; intro v' w1 hown1 hgrow hvb hbel; obtain ⟨A', c', rfl, _⟩ := ownsRow_form hown1)
       go_roundw
       case rel =>
        rw [Nat.zero_add, List.nil_append] at hown1
        exact ⟨hbr.trans hbel, .inr (.inl ⟨rfl, A', c', rfl, hown1⟩)⟩
       case measure => simp [intOf]
     · go_wp2_with (at_builtin; refine wpList_append_rd _ rfl (.tmp 31) (.tmp 32) 25 rfl w.heap.size 3 i0 _ 1 8 Tryz.underlying25 hi hz0 hz1 hz2 rfl (by decide) (.slice A n1 c) n1 _ rfl hown wr.heap.size A2 n2 c2 xs2 rfl hl2 hR2 o2 (by unfold maxLen; omega) (by omega) hbs ?_; intro v' w1 hown1 hgrow hvb hbel; obtain ⟨A', c', rfl, _⟩ := ownsRow_form hown1)
       go_roundw
       case rel => exact ⟨hbr.trans hbel, .inr (.inr ⟨rfl, A', c', rfl, hown1⟩)⟩
       case measure => simp [intOf]
     · go_wp2
       go_ret
       exact ⟨A, c, rfl, hown, hbr⟩
end Go.Proofs.YtanicpgmbhfipaaGreatDoor
namespace Go.Proofs.YtanicpgmbhfipaaGreatDoor
set_option linter.unusedVariables false
set_option linter.unusedSimpArgs false
open Go.RowKit Go.Sort
def dsc0 (d : DscP) : Int := firstE [pairE d.o d.g, unl (decide (max d.es.length d.us.length ≤ 16)) 8, unl (d.he || decide (d.es.length = 0)) 3]
theorem dscP_eq (d : DscP) : dscP d = if dsc0 d ≠ 0 then (0, dsc0 d) else eachE (entE d.es.length) 0 (d.es ++ d.us) := by
 unfold dscP dsc0
 have hp : pairE d.o d.g = 0 ∨ pairE d.o d.g = 2 := by unfold pairE; cases (hldB d.o && hldB d.g) <;> simp [unl]
 rcases hp with h | h
 · rw [h]
   by_cases h1 : 16 < d.es.length ∨ 16 < d.us.length
   · have h2 : decide (max d.es.length d.us.length ≤ 16) = false := by simp; omega
     rw [h2]
     simp [firstE, unl, h1]
   · have h2 : decide (max d.es.length d.us.length ≤ 16) = true := by simp; omega
     rw [h2]
     cases hh : d.he
     · by_cases h3 : d.es = []
       · simp [firstE, unl, h1, h3]
         omega
       · have h4 : decide (d.es.length = 0) = false := by simp [h3]
         rw [h4]
         simp [firstE, unl, h1, h3]
     · simp [firstE, unl, h1]
 · rw [h]; simp [firstE]
theorem aceV_one (l : List AceP) : ∀ u ∈ acesV l, u.oneCell' = true := by
 intro u hu
 unfold acesV at hu
 obtain ⟨a, _, h⟩ := List.mem_flatMap.1 hu
 simp only [aceV, List.mem_cons, List.not_mem_nil, or_false] at h
 rcases h with rfl | rfl | rfl | rfl <;> rfl
theorem acesV_append (l m : List AceP) : acesV (l ++ m) = acesV l ++ acesV m := by unfold acesV; rw [List.flatMap_append]
def dscV (d : DscP) (A1 A2 : Option Addr) (c1 c2 : Nat) : Value := .agg #[.int .i64 d.o, .int .i64 d.g, .bool d.pr, .bool d.he, .slice A1 d.es.length c1, .slice A2 d.us.length c2]
set_option maxRecDepth 100000 in
set_option maxHeartbeats 4000000 in
theorem CheckDsc_any (d : DscP) (A1 A2 : Option Addr) (c1 c2 : Nat) (w : World) (h1 : d.es.length ≤ 500) (h2 : d.us.length ≤ 500) (hr1 : Rd w w.heap.size A1 (acesV d.es)) (hr2 : Rd w w.heap.size A2 (acesV d.us)) :
 Calls Tryz.prog 85 #[dscV d A1 A2 c1 c2] w fun e w' => e = .returned (.tuple #[.int .i64 (dscP d).1, .int .i64 (dscP d).2]) ∧ Below w.heap.size w w' := by
 obtain ⟨q1, q2, hq⟩ : ∃ q1 q2, dscP d = (q1, q2) := ⟨_, _, rfl⟩
 have hq2 := dscP_eq d
 rw [hq] at hq2 ⊢
 have h0 : dsc0 d = firstE [pairE d.o d.g, unl (decide (max d.es.length d.us.length ≤ 16)) 8, unl (d.he || decide (d.es.length = 0)) 3] := rfl
 unfold dscV
 clear hq
 obtain ⟨o, g, pr, he, es, us⟩ := d
 dsimp only at h0 hq2 h1 h2 hr1 hr2 ⊢
 obtain ⟨r, hr⟩ : ∃ r, r = dsc0 ⟨o, g, pr, he, es, us⟩ := ⟨_, rfl⟩
 rw [← hr] at h0 hq2
 obtain ⟨e1, he1⟩ : ∃ e, e = pairE o g := ⟨_, rfl⟩
 obtain ⟨e2, he2⟩ : ∃ e, e = unl (decide (max es.length us.length ≤ 16)) 8 := ⟨_, rfl⟩
 obtain ⟨e3, he3⟩ : ∃ e, e = unl (he || decide (es.length = 0)) 3 := ⟨_, rfl⟩
 rw [← he1, ← he2, ← he3] at h0
 have hmx : decide (max (es.length : Int) us.length ≤ 16) = decide (max es.length us.length ≤ 16) := by
  rw [decide_eq_decide]; omega
 have HH := Lib.hid (fun W => holdersErr_any o g W)
 have HU2 := Lib.hid (fun W => acl_unless_any (decide (max (es.length : Int) us.length ≤ 16)) 8 W)
 have HU3 := Lib.hid (fun W => acl_unless_any (he || decide (es.length = 0)) 3 W)
 rw [← he1] at HH
 rw [hmx, ← he2, ← hmx] at HU2
 rw [← he3] at HU3
 have H0 := Lib.hid h0
 have HQ := Lib.hid hq2
 have HR1 := Lib.hid hr1
 have HR2 := Lib.hid hr2
 clear h0 hq2 hr he1 he2 he3 hr1 hr2 hmx
 go_enter Tryz.func85, Tryz.ntmps85
 cases he
 · cases hd : decide (es.length = 0)
   · have hk : ((es.length : Int) == 0) = false := by
      rw [beq_eq_false_iff_ne]; intro h; have := of_decide_eq_false hd; omega
     rw [hd] at HU3
     replace HU3 := Lib.hid (show ∀ W, Calls Tryz.prog 110 #[.bool false, .int .i64 3] W fun e w' => e = .returned (.int .i64 e3) ∧ W = w' from HU3.out)
     go_wp2
     (refine wp_region_flow [false, false, false, false, false, false, false, false, false, false, false, false, false, false, false, false, false, false, false, false, false, false, false, true, true] [⟨23, [], ErrsI w.heap.size [e1, e2, e3], false⟩, ⟨24, [23], IntV r, false⟩] (by kernel_rfl) (by kernel_rfl) (by kernel_rfl) (by kernel_rfl) ?_; simp only [pick, List.length_cons, List.length_nil, List.drop_succ_cons, List.drop_zero, Nat.zero_add, Nat.reduceAdd]; apply Exists.intro; refine ⟨fun X hX => ?_, ?_⟩; (focus (obtain ⟨hcX, hfX⟩ := bcell hX; have hgX := regcell hX; have hsX := hX.size; (try simp only [World.size_alloc] at hsX); (repeat (go_big_quiet_step ((first | (go_at_call 109; (with_reducible exact Calls.reg_pure (HH.out _))) | (go_at_call 110; (with_reducible exact Calls.reg_pure (HU2.out _))) | (go_at_call 110; (with_reducible exact Calls.reg_pure (HU3.out _))))))); exact wpQuiet_nil rfl)); simp only [wpND, told, toldAll, List.contains_cons, List.contains_nil, List.mem_cons, List.not_mem_nil, forall_eq_or_imp, false_implies, implies_true, and_true, Nat.reduceBEq, BEq.rfl, beq_self_eq_true, Bool.or_false, Bool.false_or, Bool.true_or, Bool.or_true, Bool.false_eq_true, if_true, if_false, true_implies, dstAt, List.getElem?_toArray, List.getElem?_cons_succ, List.getElem?_cons_zero, Option.some.injEq, forall_eq', Option.bind_some, Act.put, List.setIfInBounds_toArray, List.set_cons_succ, List.set_cons_zero])
     refine ⟨ErrsI.stable, fun X hX => ?_, fun v1 => ⟨IntV.stable, fun X hX hf => ?_, fun v2 X hX hf => ?_⟩⟩
     · exact leaves_alloc' (v := .slice (some ⟨X.heap.size, 0, none⟩) 3 3) (obj := .cells #[.int .i64 e1, .int .i64 e2, .int .i64 e3] 30) (by kernel_rfl) ⟨X.heap.size, rfl, by have := hX.size; simp at this; omega, heap_alloc_new _ _⟩
     · refine leaves_call' (f := 103) (args := #[v1]) (by kernel_rfl) ?_
       rw [H0.out]
       exact acl_first_errs [e1, e2, e3] (by simp) hf
     · obtain ⟨h2v, _⟩ := hf
       obtain rfl : v2 = .int .i64 r := h2v
       have hbX : Below w.heap.size w X := bel_trans (bel_alloc (Below.refl _ _) _) hX
       have hDX : w.heap.size < X.heap.size := by have := hX.size; simp at this; omega
       have k4 : X.cell? ⟨w.heap.size, 4, none⟩ = some (.slice A1 es.length c1) := (hX.cell (p := ⟨w.heap.size, 4, none⟩) (by simp)).trans (by simp)
       have k5 : X.cell? ⟨w.heap.size, 5, none⟩ = some (.slice A2 us.length c2) := (hX.cell (p := ⟨w.heap.size, 5, none⟩) (by simp)).trans (by simp)
       by_cases hr0 : r = 0
       · have hr0' : (r != 0) = false := by rw [hr0]; rfl
         have hq := HQ.out
         rw [if_neg (by simpa using hr0)] at hq
         have hbX2 := bel_alloc hbX (.cells #[.slice A1 es.length c1, .slice A2 us.length c2] 22)
         have hcat := (ace_Concat X.heap.size es.length c1 us.length c2 A1 A2 (acesV es) (acesV us) (X.alloc (.cells #[.slice A1 es.length c1, .slice A2 us.length c2] 22)) (by simp) (by simp) (by simp) (acesV_length _) (acesV_length _) (HR1.out.below' hbX2) (HR2.out.below' hbX2) (aceV_one _) (aceV_one _) (by omega) (by omega))
         rw [← List.length_append, ← acesV_append] at hcat
         obtain ⟨L, hL⟩ : ∃ L, L = es ++ us := ⟨_, rfl⟩
         have hLl : L.length ≤ 1000 := by rw [hL, List.length_append]; omega
         rw [← hL] at hcat hq
         have HQ2 := Lib.hid hq
         clear hL
         have HCAT := Lib.hid hcat
         clear hcat
         have k4' := fun W (hW : Below (X.alloc (.cells #[.slice A1 es.length c1, .slice A2 us.length c2] 22)).heap.size (X.alloc (.cells #[.slice A1 es.length c1, .slice A2 us.length c2] 22)) W) => ((bel_trans (bel_alloc (Below.refl _ X) _) hW).cell (p := ⟨w.heap.size, 4, none⟩) hDX).trans k4
         have HK4 := Lib.hid k4'
         have hmf : ∀ (fn : Fn) (first cap : Array Value) (w : World), (Instr.makeFunc fn first cap).run Tryz.prog w = .ok (.func fn first cap) w := fun _ _ _ _ => rfl
         clear hr0 hq k4'
         go_wp2_with (first | (go_at_call 111; refine HCAT.out.mono ?_; rintro e W3 ⟨A3, c3, rfl, hown3, hb3⟩; have hs3 := hb3.size; rw [World.size_alloc] at hs3) | (go_at_call 96; refine (eachDsc_any A3 A1 c3 c1 w.heap.size es.length L W3 hLl (Rd.of_own hown3) (by omega) (HK4.out _ hb3) (by omega)).mono ?_; rintro e W4 ⟨rfl, hb4⟩))
         go_ret2
         exact ⟨retII (by rw [← HQ2.out]) (by rw [← HQ2.out]), bel_trans (bel_trans hbX2 hb3) hb4⟩
       · have hr0' : (r != 0) = true := by simpa using hr0
         have hq := HQ.out
         rw [if_pos hr0] at hq
         injection hq with hq1 hq2
         have HQ1 := Lib.hid hq1
         have HQ2 := Lib.hid hq2
         clear hr0 hq1 hq2
         go_wp2
         go_ret2
         exact ⟨retII HQ1.out.symm HQ2.out.symm, hbX⟩
   · have hk : ((es.length : Int) == 0) = true := by
      rw [beq_iff_eq]; have := of_decide_eq_true hd; omega
     rw [hd] at HU3
     replace HU3 := Lib.hid (show ∀ W, Calls Tryz.prog 110 #[.bool true, .int .i64 3] W fun e w' => e = .returned (.int .i64 e3) ∧ W = w' from HU3.out)
     go_wp2
     (refine wp_region_flow [false, false, false, false, false, false, false, false, false, false, false, false, false, false, false, false, false, false, false, false, false, false, false, true, true] [⟨23, [], ErrsI w.heap.size [e1, e2, e3], false⟩, ⟨24, [23], IntV r, false⟩] (by kernel_rfl) (by kernel_rfl) (by kernel_rfl) (by kernel_rfl) ?_; simp only [pick, List.length_cons, List.length_nil, List.drop_succ_cons, List.drop_zero, Nat.zero_add, Nat.reduceAdd]; apply Exists.intro; refine ⟨fun X hX => ?_, ?_⟩; (focus (obtain ⟨hcX, hfX⟩ := bcell hX; have hgX := regcell hX; have hsX := hX.size; (try simp only [World.size_alloc] at hsX); (repeat (go_big_quiet_step ((first | (go_at_call 109; (with_reducible exact Calls.reg_pure (HH.out _))) | (go_at_call 110; (with_reducible exact Calls.reg_pure (HU2.out _))) | (go_at_call 110; (with_reducible exact Calls.reg_pure (HU3.out _))))))); exact wpQuiet_nil rfl)); simp only [wpND, told, toldAll, List.contains_cons, List.contains_nil, List.mem_cons, List.not_mem_nil, forall_eq_or_imp, false_implies, implies_true, and_true, Nat.reduceBEq, BEq.rfl, beq_self_eq_true, Bool.or_false, Bool.false_or, Bool.true_or, Bool.or_true, Bool.false_eq_true, if_true, if_false, true_implies, dstAt, List.getElem?_toArray, List.getElem?_cons_succ, List.getElem?_cons_zero, Option.some.injEq, forall_eq', Option.bind_some, Act.put, List.setIfInBounds_toArray, List.set_cons_succ, List.set_cons_zero])
     refine ⟨ErrsI.stable, fun X hX => ?_, fun v1 => ⟨IntV.stable, fun X hX hf => ?_, fun v2 X hX hf => ?_⟩⟩
     · exact leaves_alloc' (v := .slice (some ⟨X.heap.size, 0, none⟩) 3 3) (obj := .cells #[.int .i64 e1, .int .i64 e2, .int .i64 e3] 30) (by kernel_rfl) ⟨X.heap.size, rfl, by have := hX.size; simp at this; omega, heap_alloc_new _ _⟩
     · refine leaves_call' (f := 103) (args := #[v1]) (by kernel_rfl) ?_
       rw [H0.out]
       exact acl_first_errs [e1, e2, e3] (by simp) hf
     · obtain ⟨h2v, _⟩ := hf
       obtain rfl : v2 = .int .i64 r := h2v
       have hbX : Below w.heap.size w X := bel_trans (bel_alloc (Below.refl _ _) _) hX
       have hDX : w.heap.size < X.heap.size := by have := hX.size; simp at this; omega
       have k4 : X.cell? ⟨w.heap.size, 4, none⟩ = some (.slice A1 es.length c1) := (hX.cell (p := ⟨w.heap.size, 4, none⟩) (by simp)).trans (by simp)
       have k5 : X.cell? ⟨w.heap.size, 5, none⟩ = some (.slice A2 us.length c2) := (hX.cell (p := ⟨w.heap.size, 5, none⟩) (by simp)).trans (by simp)
       by_cases hr0 : r = 0
       · have hr0' : (r != 0) = false := by rw [hr0]; rfl
         have hq := HQ.out
         rw [if_neg (by simpa using hr0)] at hq
         have hbX2 := bel_alloc hbX (.cells #[.slice A1 es.length c1, .slice A2 us.length c2] 22)
         have hcat := (ace_Concat X.heap.size es.length c1 us.length c2 A1 A2 (acesV es) (acesV us) (X.alloc (.cells #[.slice A1 es.length c1, .slice A2 us.length c2] 22)) (by simp) (by simp) (by simp) (acesV_length _) (acesV_length _) (HR1.out.below' hbX2) (HR2.out.below' hbX2) (aceV_one _) (aceV_one _) (by omega) (by omega))
         rw [← List.length_append, ← acesV_append] at hcat
         obtain ⟨L, hL⟩ : ∃ L, L = es ++ us := ⟨_, rfl⟩
         have hLl : L.length ≤ 1000 := by rw [hL, List.length_append]; omega
         rw [← hL] at hcat hq
         have HQ2 := Lib.hid hq
         clear hL
         have HCAT := Lib.hid hcat
         clear hcat
         have k4' := fun W (hW : Below (X.alloc (.cells #[.slice A1 es.length c1, .slice A2 us.length c2] 22)).heap.size (X.alloc (.cells #[.slice A1 es.length c1, .slice A2 us.length c2] 22)) W) => ((bel_trans (bel_alloc (Below.refl _ X) _) hW).cell (p := ⟨w.heap.size, 4, none⟩) hDX).trans k4
         have HK4 := Lib.hid k4'
         have hmf : ∀ (fn : Fn) (first cap : Array Value) (w : World), (Instr.makeFunc fn first cap).run Tryz.prog w = .ok (.func fn first cap) w := fun _ _ _ _ => rfl
         clear hr0 hq k4'
         go_wp2_with (first | (go_at_call 111; refine HCAT.out.mono ?_; rintro e W3 ⟨A3, c3, rfl, hown3, hb3⟩; have hs3 := hb3.size; rw [World.size_alloc] at hs3) | (go_at_call 96; refine (eachDsc_any A3 A1 c3 c1 w.heap.size es.length L W3 hLl (Rd.of_own hown3) (by omega) (HK4.out _ hb3) (by omega)).mono ?_; rintro e W4 ⟨rfl, hb4⟩))
         go_ret2
         exact ⟨retII (by rw [← HQ2.out]) (by rw [← HQ2.out]), bel_trans (bel_trans hbX2 hb3) hb4⟩
       · have hr0' : (r != 0) = true := by simpa using hr0
         have hq := HQ.out
         rw [if_pos hr0] at hq
         injection hq with hq1 hq2
         have HQ1 := Lib.hid hq1
         have HQ2 := Lib.hid hq2
         clear hr0 hq1 hq2
         go_wp2
         go_ret2
         exact ⟨retII HQ1.out.symm HQ2.out.symm, hbX⟩
 · replace HU3 := Lib.hid (show ∀ W, Calls Tryz.prog 110 #[.bool true, .int .i64 3] W fun e w' => e = .returned (.int .i64 e3) ∧ W = w' from HU3.out)
   go_wp2
   (refine wp_region_flow [false, false, false, false, false, false, false, false, false, false, false, false, false, false, false, false, false, false, false, false, false, false, false, true, true] [⟨23, [], ErrsI w.heap.size [e1, e2, e3], false⟩, ⟨24, [23], IntV r, false⟩] (by kernel_rfl) (by kernel_rfl) (by kernel_rfl) (by kernel_rfl) ?_; simp only [pick, List.length_cons, List.length_nil, List.drop_succ_cons, List.drop_zero, Nat.zero_add, Nat.reduceAdd]; apply Exists.intro; refine ⟨fun X hX => ?_, ?_⟩; (focus (obtain ⟨hcX, hfX⟩ := bcell hX; have hgX := regcell hX; have hsX := hX.size; (try simp only [World.size_alloc] at hsX); (repeat (go_big_quiet_step ((first | (go_at_call 109; (with_reducible exact Calls.reg_pure (HH.out _))) | (go_at_call 110; (with_reducible exact Calls.reg_pure (HU2.out _))) | (go_at_call 110; (with_reducible exact Calls.reg_pure (HU3.out _))))))); exact wpQuiet_nil rfl)); simp only [wpND, told, toldAll, List.contains_cons, List.contains_nil, List.mem_cons, List.not_mem_nil, forall_eq_or_imp, false_implies, implies_true, and_true, Nat.reduceBEq, BEq.rfl, beq_self_eq_true, Bool.or_false, Bool.false_or, Bool.true_or, Bool.or_true, Bool.false_eq_true, if_true, if_false, true_implies, dstAt, List.getElem?_toArray, List.getElem?_cons_succ, List.getElem?_cons_zero, Option.some.injEq, forall_eq', Option.bind_some, Act.put, List.setIfInBounds_toArray, List.set_cons_succ, List.set_cons_zero])
   refine ⟨ErrsI.stable, fun X hX => ?_, fun v1 => ⟨IntV.stable, fun X hX hf => ?_, fun v2 X hX hf => ?_⟩⟩
   · exact leaves_alloc' (v := .slice (some ⟨X.heap.size, 0, none⟩) 3 3) (obj := .cells #[.int .i64 e1, .int .i64 e2, .int .i64 e3] 30) (by kernel_rfl) ⟨X.heap.size, rfl, by have := hX.size; simp at this; omega, heap_alloc_new _ _⟩
   · refine leaves_call' (f := 103) (args := #[v1]) (by kernel_rfl) ?_
     rw [H0.out]
     exact acl_first_errs [e1, e2, e3] (by simp) hf
   · obtain ⟨h2v, _⟩ := hf
     obtain rfl : v2 = .int .i64 r := h2v
     have hbX : Below w.heap.size w X := bel_trans (bel_alloc (Below.refl _ _) _) hX
     have hDX : w.heap.size < X.heap.size := by have := hX.size; simp at this; omega
     have k4 : X.cell? ⟨w.heap.size, 4, none⟩ = some (.slice A1 es.length c1) := (hX.cell (p := ⟨w.heap.size, 4, none⟩) (by simp)).trans (by simp)
     have k5 : X.cell? ⟨w.heap.size, 5, none⟩ = some (.slice A2 us.length c2) := (hX.cell (p := ⟨w.heap.size, 5, none⟩) (by simp)).trans (by simp)
     by_cases hr0 : r = 0
     · have hr0' : (r != 0) = false := by rw [hr0]; rfl
       have hq := HQ.out
       rw [if_neg (by simpa using hr0)] at hq
       have hbX2 := bel_alloc hbX (.cells #[.slice A1 es.length c1, .slice A2 us.length c2] 22)
       have hcat := (ace_Concat X.heap.size es.length c1 us.length c2 A1 A2 (acesV es) (acesV us) (X.alloc (.cells #[.slice A1 es.length c1, .slice A2 us.length c2] 22)) (by simp) (by simp) (by simp) (acesV_length _) (acesV_length _) (HR1.out.below' hbX2) (HR2.out.below' hbX2) (aceV_one _) (aceV_one _) (by omega) (by omega))
       rw [← List.length_append, ← acesV_append] at hcat
       obtain ⟨L, hL⟩ : ∃ L, L = es ++ us := ⟨_, rfl⟩
       have hLl : L.length ≤ 1000 := by rw [hL, List.length_append]; omega
       rw [← hL] at hcat hq
       have HQ2 := Lib.hid hq
       clear hL
       have HCAT := Lib.hid hcat
       clear hcat
       have k4' := fun W (hW : Below (X.alloc (.cells #[.slice A1 es.length c1, .slice A2 us.length c2] 22)).heap.size (X.alloc (.cells #[.slice A1 es.length c1, .slice A2 us.length c2] 22)) W) => ((bel_trans (bel_alloc (Below.refl _ X) _) hW).cell (p := ⟨w.heap.size, 4, none⟩) hDX).trans k4
       have HK4 := Lib.hid k4'
       have hmf : ∀ (fn : Fn) (first cap : Array Value) (w : World), (Instr.makeFunc fn first cap).run Tryz.prog w = .ok (.func fn first cap) w := fun _ _ _ _ => rfl
       clear hr0 hq k4'
       go_wp2_with (first | (go_at_call 111; refine HCAT.out.mono ?_; rintro e W3 ⟨A3, c3, rfl, hown3, hb3⟩; have hs3 := hb3.size; rw [World.size_alloc] at hs3) | (go_at_call 96; refine (eachDsc_any A3 A1 c3 c1 w.heap.size es.length L W3 hLl (Rd.of_own hown3) (by omega) (HK4.out _ hb3) (by omega)).mono ?_; rintro e W4 ⟨rfl, hb4⟩))
       go_ret2
       exact ⟨retII (by rw [← HQ2.out]) (by rw [← HQ2.out]), bel_trans (bel_trans hbX2 hb3) hb4⟩
     · have hr0' : (r != 0) = true := by simpa using hr0
       have hq := HQ.out
       rw [if_pos hr0] at hq
       injection hq with hq1 hq2
       have HQ1 := Lib.hid hq1
       have HQ2 := Lib.hid hq2
       clear hr0 hq1 hq2
       go_wp2
       go_ret2
       exact ⟨retII HQ1.out.symm HQ2.out.symm, hbX⟩
end Go.Proofs.YtanicpgmbhfipaaGreatDoor
namespace Go.Proofs.YtanicpgmbhfipaaGreatDoor
set_option linter.unusedVariables false
set_option linter.unusedSimpArgs false
open Go.RowKit Go.Sort
theorem access_first2 (e1 e2 : Int) (w : World) : Calls Tryz.prog 51 #[.slice (some ⟨w.heap.size, 0, none⟩) 2 2] (w.alloc (.cells #[.int .i64 e1, .int .i64 e2] 30)) fun e w' => e = .returned (.int .i64 (firstE [e1, e2])) ∧ w.alloc (.cells #[.int .i64 e1, .int .i64 e2] 30) = w' :=
 access_first_list [e1, e2] w (by simp)
set_option maxRecDepth 100000 in
set_option maxHeartbeats 1000000 in
theorem usersErr1_any (D c : Nat) (A : Option Addr) (l : List Int) (i : Nat) (w : World) (hi : i < l.length) (hl : l.length ≤ 100000) (hD : D < w.heap.size) (hc : w.cell? ⟨D, 0, none⟩ = some (.slice A l.length c)) (hr : Rd w w.heap.size A (l.map (.int .i64))) :
 Calls Tryz.prog 113 #[.int .i64 i, .int .i64 l[i], .pointer (some ⟨D, 0, none⟩)] w fun e w' => e = .returned (.int .i64 (ordE l i l[i])) ∧ Below w.heap.size w w' := by
 obtain ⟨n, hn⟩ : ∃ n, n = l[i] := ⟨_, rfl⟩
 rw [← hn]
 obtain ⟨r, hre⟩ : ∃ r, r = ordE l i n := ⟨_, rfl⟩
 rw [← hre]
 unfold ordE at hre
 obtain ⟨e1, he1⟩ : ∃ e, e = unl (hldB n) 2 := ⟨_, rfl⟩
 have HU1 := Lib.hid (fun W => access_unless_any (hldB n) 2 W)
 rw [← he1] at HU1 hre
 by_cases h0 : i = 0
 · subst h0
   obtain ⟨e2, he2⟩ : ∃ e, e = unl true 9 := ⟨_, rfl⟩
   have hre' : r = firstE [e1, e2] := by rw [hre, he2]; rfl
   have HU2 := Lib.hid (fun W => access_unless_any true 9 W)
   rw [← he2] at HU2
   have HF := access_first2 e1 e2 w
   rw [← hre'] at HF
   have HF := Lib.hid HF
   clear hre hre' he1 he2 hn hr
   go_enter Tryz.func113, Tryz.ntmps113
   go_wp2_with (first | (go_at_call 86; refine (isUser_any _ _).mono ?_; rintro e w' ⟨rfl, rfl⟩) | (go_at_call 59; (with_reducible refine (HU1.out _).mono ?_); rintro e w' ⟨rfl, rfl⟩) | (go_at_call 59; (with_reducible refine (HU2.out _).mono ?_); rintro e w' ⟨rfl, rfl⟩) | (go_at_call 51; refine (HF.out).mono ?_; rintro e w' ⟨rfl, rfl⟩))
   go_ret
   exact ⟨rfl, bel_alloc (Below.refl _ _) _⟩
 · obtain ⟨j, rfl⟩ : ∃ j, i = j + 1 := ⟨i - 1, by omega⟩
   obtain ⟨b, o, rfl, hB, hcc⟩ := hr.opened (by rw [List.length_map]; omega)
   have cj : w.cell? ⟨b, o + j, none⟩ = some (.int .i64 (l[j]'(by omega))) := hcc _ _ (by rw [List.getElem?_map, List.getElem?_eq_getElem (by omega)]; rfl)
   obtain ⟨p, hp⟩ : ∃ p, p = l[j]'(by omega) := ⟨_, rfl⟩
   rw [← hp] at cj
   have hg : l.getD (j + 1 - 1) 0 = p := by rw [hp, Nat.add_sub_cancel, List.getD_eq_getElem?_getD, List.getElem?_eq_getElem (by omega)]; rfl
   obtain ⟨e2, he2⟩ : ∃ e, e = unl (decide (p < n)) 9 := ⟨_, rfl⟩
   have hre' : r = firstE [e1, e2] := by
    rw [hre, he2, hg, show (j + 1 == 0) = false from rfl]; rfl
   have HU2 := Lib.hid (fun W => access_unless_any (decide (p < n)) 9 W)
   rw [← he2] at HU2
   have HF := access_first2 e1 e2 w
   rw [← hre'] at HF
   have HF := Lib.hid HF
   have hmx : max 0 ((j : Int) + 1 - 1) = j := by omega
   have hne : ((j : Int) + 1 == 0) = false := by rw [beq_eq_false_iff_ne]; omega
   clear hre hre' he1 he2 hn hr hcc hp hg h0
   go_enter Tryz.func113, Tryz.ntmps113
   go_wp2_with (first | (go_at_call 86; refine (isUser_any _ _).mono ?_; rintro e w' ⟨rfl, rfl⟩) | (go_at_call 59; (with_reducible refine (HU1.out _).mono ?_); rintro e w' ⟨rfl, rfl⟩) | (go_at_call 59; (with_reducible refine (HU2.out _).mono ?_); rintro e w' ⟨rfl, rfl⟩) | (go_at_call 51; refine (HF.out).mono ?_; rintro e w' ⟨rfl, rfl⟩))
   go_ret
   exact ⟨rfl, bel_alloc (Below.refl _ _) _⟩
end Go.Proofs.YtanicpgmbhfipaaGreatDoor
namespace Go.Proofs.YtanicpgmbhfipaaGreatDoor
set_option linter.unusedVariables false
set_option linter.unusedSimpArgs false
open Go.RowKit Go.Sort
set_option maxRecDepth 100000 in
set_option maxHeartbeats 2000000 in
theorem eachUsers_any (A : Option Addr) (c D : Nat) (l : List Int) (w : World) (hlen : l.length ≤ 100000) (hr : Rd w w.heap.size A (l.map (.int .i64))) (hD : D < w.heap.size) (hc : w.cell? ⟨D, 0, none⟩ = some (.slice A l.length c)) :
 Calls Tryz.prog 60 #[.slice A l.length c, .func (.func 113) #[] #[.pointer (some ⟨D, 0, none⟩)]] w fun e w' =>
  e = .returned (.tuple #[.int .i64 (eachE (ordE l) 0 l).1, .int .i64 (eachE (ordE l) 0 l).2]) ∧ Below w.heap.size w w' := by
 have HC := Lib.hid (fun (i : Nat) (hi : i < l.length) (W : World) (hW : Below w.heap.size w W) => usersErr1_any D c A l i W hi hlen (by have := hW.size; omega) ((hW.cell (p := ⟨D, 0, none⟩) hD).trans hc) (hr.below' hW))
 clear hc
 go_enter Tryz.func60, Tryz.ntmps60
 go_wp2
 go_loopw [11] (fun i wr => ∃ k : Nat, k ≤ l.length ∧ i = .int .i64 k ∧ Below w.heap.size w wr ∧ eachE (ordE l) 0 l = eachE (ordE l) k (l.drop k)) (fun i _ => l.length - (intOf i).toNat)
 case atStart => exact ⟨0, Nat.zero_le _, rfl, Below.refl _ _, rfl⟩
 case round =>
  obtain ⟨k, hk, rfl, hb, hf⟩ := hrel
  have HF := Lib.hid hf
  clear hf
  by_cases hlt : k < l.length
  · have hr2 := hr.below hb
    obtain ⟨b, o, rfl, hB, hcc⟩ := hr2.opened (by rw [List.length_map]; omega)
    obtain ⟨n, hn⟩ : ∃ n, n = l[k] := ⟨_, rfl⟩
    have c0 : wr.cell? ⟨b, o + k, none⟩ = some (.int .i64 n) := hcc _ _ (by rw [List.getElem?_map, List.getElem?_eq_getElem hlt, hn]; rfl)
    have hd : l.drop k = l[k] :: l.drop (k + 1) := List.drop_eq_getElem_cons hlt
    obtain ⟨r, hre⟩ : ∃ r, r = ordE l k l[k] := ⟨_, rfl⟩
    have hC2 := HC.out k hlt wr hb
    rw [← hre, ← hn] at hC2
    rw [← hn] at hd hre
    have HD := Lib.hid hd
    have HC2 := Lib.hid hC2
    have HRE := Lib.hid hre
    clear hd hn hcc hr hr2 hre hC2
    by_cases h0 : r = 0
    · subst h0
      go_wp2_with (go_at_call 113; refine HC2.out.mono ?_; rintro e w1 ⟨rfl, hb1⟩)
      go_roundw
      case rel => exact ⟨k + 1, by omega, by go_num, bel_trans hb hb1, by rw [HF.out, HD.out, eachE, if_pos HRE.out.symm]⟩
      case measure => simp [intOf]; omega
    · have h0' : (r != 0) = true := by simp [h0]
      have H0 := Lib.hid h0
      clear h0
      go_wp2_with (go_at_call 113; refine HC2.out.mono ?_; rintro e w1 ⟨rfl, hb1⟩)
      go_ret2
      have e : eachE (ordE l) 0 l = ((k : Int), r) := by rw [HF.out, HD.out, eachE, if_neg (by rw [← HRE.out]; exact H0.out), ← HRE.out]
      exact ⟨retII (by rw [e]) (by rw [e]), bel_trans hb hb1⟩
  · go_wp2
    go_ret2
    exact ⟨retII (by rw [HF.out, List.drop_of_length_le (by omega)]; rfl) (by rw [HF.out, List.drop_of_length_le (by omega)]; rfl), hb⟩
set_option maxRecDepth 100000 in
theorem usersErr_any (A : Option Addr) (c : Nat) (l : List Int) (w : World) (hlen : l.length ≤ 100000) (hr : Rd w w.heap.size A (l.map (.int .i64))) :
 Calls Tryz.prog 87 #[.slice A l.length c] w fun e w' => e = .returned (.int .i64 (usersE l)) ∧ Below w.heap.size w w' := by
 have hmf : ∀ (fn : Fn) (first cap : Array Value) (w : World), (Instr.makeFunc fn first cap).run Tryz.prog w = .ok (.func fn first cap) w := fun _ _ _ _ => rfl
 have HE := Lib.hid (eachUsers_any A c w.heap.size l (w.alloc (.cells #[.slice A l.length c] 25)) hlen (hr.below' (bel_alloc (Below.refl _ _) _)) (by simp) (by simp))
 obtain ⟨q, hq⟩ : ∃ q, q = (eachE (ordE l) 0 l).1 := ⟨_, rfl⟩
 rw [← hq] at HE
 clear hq hr
 go_enter Tryz.func87, Tryz.ntmps87
 go_wp2_with (go_at_call 60; refine HE.out.mono ?_; rintro e w1 ⟨rfl, hb1⟩)
 go_ret
 exact ⟨rfl, bel_trans (bel_alloc (Below.refl _ _) _) hb1⟩
end Go.Proofs.YtanicpgmbhfipaaGreatDoor
namespace Go.Proofs.YtanicpgmbhfipaaGreatDoor
set_option linter.unusedVariables false
set_option linter.unusedSimpArgs false
open Go.RowKit Go.Sort
def tokV (t : TokP) (A : Option Addr) (c : Nat) : Value := .agg #[.int .i64 t.u, .slice A t.gs.length c, .int .i64 t.p]
set_option maxRecDepth 100000 in
set_option maxHeartbeats 2000000 in
theorem CheckToken_any (t : TokP) (A : Option Addr) (c : Nat) (w : World) (hl : t.gs.length ≤ 100000) (hr : Rd w w.heap.size A (t.gs.map (.int .i64))) :
 Calls Tryz.prog 53 #[tokV t A c] w fun e w' => e = .returned (.int .i64 (tokE t)) ∧ Below w.heap.size w w' := by
 obtain ⟨r, hre⟩ : ∃ r, r = tokE t := ⟨_, rfl⟩
 rw [← hre]
 unfold tokE at hre
 unfold tokV
 obtain ⟨u, gs, p⟩ := t
 dsimp only at hre hl hr ⊢
 obtain ⟨e1, he1⟩ : ∃ e, e = unl (hldB u) 2 := ⟨_, rfl⟩
 obtain ⟨e2, he2⟩ : ∃ e, e = unl (decide (gs.length ≤ 16)) 8 := ⟨_, rfl⟩
 obtain ⟨e3, he3⟩ : ∃ e, e = usersE gs := ⟨_, rfl⟩
 obtain ⟨e4, he4⟩ : ∃ e, e = unl (inB p 0 15) 2 := ⟨_, rfl⟩
 rw [← he1, ← he2, ← he3, ← he4] at hre
 have HU1 := Lib.hid (fun W => access_unless_any (hldB u) 2 W)
 have HU2 := Lib.hid (fun W => access_unless_any (decide (gs.length ≤ 16)) 8 W)
 have HU4 := Lib.hid (fun W => access_unless_any (inB p 0 15) 2 W)
 rw [← he1] at HU1
 rw [← he2] at HU2
 rw [← he4] at HU4
 have HR := Lib.hid hr
 have HUS := Lib.hid (fun W (hW : Below w.heap.size w W) => usersErr_any A c gs W hl (HR.out.below' hW))
 rw [← he3] at HUS
 have H0 := Lib.hid hre
 clear hre he1 he2 he3 he4 hr
 have hk16 : decide ((gs.length : Int) ≤ 16) = decide (gs.length ≤ 16) := by rw [decide_eq_decide]; omega
 go_enter Tryz.func53, Tryz.ntmps53
 go_wp2
 (refine wp_region_flow [false, false, false, false, false, false, false, false, false, false, false, false, false, false, false, false, true, true] [⟨16, [], ErrsI w.heap.size [e1, e2, e3, e4], false⟩, ⟨17, [16], IntV r, false⟩] (by kernel_rfl) (by kernel_rfl) (by kernel_rfl) (by kernel_rfl) ?_; simp only [pick, List.length_cons, List.length_nil, List.drop_succ_cons, List.drop_zero, Nat.zero_add, Nat.reduceAdd]; apply Exists.intro; refine ⟨fun X hX => ?_, ?_⟩; (focus (obtain ⟨hcX, hfX⟩ := bcell hX; have hgX := regcell hX; have hsX := hX.size; (try simp only [World.size_alloc] at hsX); (repeat (go_big_quiet_step ((first | (go_at_call 86; (with_reducible exact Calls.reg_pure (isUser_any _ _))) | (go_at_call 88; (with_reducible exact Calls.reg_pure (access_within_any _ _ _ _))) | (go_at_call 59; (with_reducible exact Calls.reg_pure (HU1.out _))) | (go_at_call 59; (with_reducible exact Calls.reg_pure (HU2.out _))) | (go_at_call 59; (with_reducible exact Calls.reg_pure (HU4.out _))) | (go_at_call 87; (with_reducible exact Calls.regrown_of (HUS.out _ (bel_trans (bel_trans (bel_alloc (Below.refl _ _) _) hX) (below_regrown X _ _))))))))); exact wpQuiet_nil rfl)); simp only [wpND, told, toldAll, List.contains_cons, List.contains_nil, List.mem_cons, List.not_mem_nil, forall_eq_or_imp, false_implies, implies_true, and_true, Nat.reduceBEq, BEq.rfl, beq_self_eq_true, Bool.or_false, Bool.false_or, Bool.true_or, Bool.or_true, Bool.false_eq_true, if_true, if_false, true_implies, dstAt, List.getElem?_toArray, List.getElem?_cons_succ, List.getElem?_cons_zero, Option.some.injEq, forall_eq', Option.bind_some, Act.put, List.setIfInBounds_toArray, List.set_cons_succ, List.set_cons_zero])
 refine ⟨ErrsI.stable, fun X hX => ?_, fun v1 => ⟨IntV.stable, fun X hX hf => ?_, fun v2 X hX hf => ?_⟩⟩
 · exact leaves_alloc' (v := .slice (some ⟨X.heap.size, 0, none⟩) 4 4) (obj := .cells #[.int .i64 e1, .int .i64 e2, .int .i64 e3, .int .i64 e4] 30) (by kernel_rfl) ⟨X.heap.size, rfl, by have := hX.size; simp at this; omega, heap_alloc_new _ _⟩
 · refine leaves_call' (f := 51) (args := #[v1]) (by kernel_rfl) ?_
   rw [H0.out]
   exact access_first_errs [e1, e2, e3, e4] (by simp) hf
 · obtain ⟨h2v, _⟩ := hf
   obtain rfl : v2 = .int .i64 r := h2v
   go_wp2
   go_ret
   exact ⟨rfl, bel_trans (bel_alloc (Below.refl _ _) _) hX⟩
end Go.Proofs.YtanicpgmbhfipaaGreatDoor
namespace Go.Proofs.YtanicpgmbhfipaaGreatDoor
set_option linter.unusedVariables false
set_option linter.unusedSimpArgs false
open Go.RowKit Go.Sort
set_option maxRecDepth 100000 in
theorem has_any (t : TokP) (A : Option Addr) (c : Nat) (who : Int) (w : World) (hl : t.gs.length ≤ 100000) (hr : Rd w w.heap.size A (t.gs.map (.int .i64)))
 (HCON : ∀ W, Below w.heap.size w W → Calls Tryz.prog 80 #[.slice A t.gs.length c, .int .i64 who] W fun e w' => e = .returned (.bool (t.gs.contains who)) ∧ W = w') :
 Calls Tryz.prog 71 #[tokV t A c, .int .i64 who] w fun e w' => e = .returned (.bool (isT t who)) ∧ Below w.heap.size w w' := by
 obtain ⟨r, hre⟩ : ∃ r, r = isT t who := ⟨_, rfl⟩
 rw [← hre]
 unfold isT at hre
 unfold tokV
 obtain ⟨u, gs, p⟩ := t
 dsimp only at hre hl hr HCON ⊢
 have HC := Lib.hid HCON
 clear HCON hr
 by_cases h1 : who = 1
 · subst h1
   have H := Lib.hid hre
   clear hre
   go_enter Tryz.func71, Tryz.ntmps71
   go_wp2
   go_ret
   exact ⟨by rw [H.out]; rfl, bel_alloc (Below.refl _ _) _⟩
 · have k1 : (who == 1) = false := by simpa using h1
   by_cases h2 : who = u
   · subst h2
     have H := Lib.hid (show r = true by rw [hre]; simp)
     clear hre h1
     go_enter Tryz.func71, Tryz.ntmps71
     go_wp2
     go_ret
     exact ⟨by rw [H.out]; rfl, bel_alloc (Below.refl _ _) _⟩
   · have k2 : (who == u) = false := by simpa using h2
     have H := Lib.hid (show r = gs.contains who by rw [hre, k1, k2]; rfl)
     clear hre h1 h2
     go_enter Tryz.func71, Tryz.ntmps71
     go_wp2_with (go_at_call 80; refine (HC.out _ (bel_alloc (Below.refl _ _) _)).mono ?_; rintro e w' ⟨rfl, rfl⟩)
     go_ret
     exact ⟨by rw [H.out, show gs.contains who = decide (who ∈ gs) by simp]; rfl, bel_alloc (Below.refl _ _) _⟩
end Go.Proofs.YtanicpgmbhfipaaGreatDoor
namespace Go.Proofs.YtanicpgmbhfipaaGreatDoor
set_option linter.unusedVariables false
set_option linter.unusedSimpArgs false
open Go.RowKit Go.Sort
theorem contains_any (A : Option Addr) (c : Nat) (l : List Int) (x : Int) (w : World) (hl : l.length ≤ 100000) (hr : Rd w w.heap.size A (l.map (.int .i64))) :
 Calls Tryz.prog 80 #[.slice A l.length c, .int .i64 x] w fun e w' => e = .returned (.bool (l.contains x)) ∧ w = w' := by
 by_cases h0 : l = []
 · subst h0
   exact (Tryz.slices_Contains_int_empty A c x w).mono fun e w' ⟨h1, h2⟩ => ⟨h1, h2.symm⟩
 · obtain ⟨b, o, rfl, hB, hc⟩ := hr.opened (by rw [List.length_map]; exact List.length_pos_iff.2 h0)
   refine (Tryz.slices_Contains_int b o l.length c l x w (Nat.le_refl _) (by omega) (fun j hj => hc _ _ ?_)).mono fun e w' ⟨h1, h2⟩ => ⟨by rw [h1, List.take_length], h2.symm⟩
   rw [List.getElem?_map, List.getElem?_eq_getElem hj, List.getD_eq_getElem?_getD, List.getElem?_eq_getElem hj]; rfl
theorem has_it (t : TokP) (A : Option Addr) (c : Nat) (who : Int) (w : World) (hl : t.gs.length ≤ 100000) (hr : Rd w w.heap.size A (t.gs.map (.int .i64))) :
 Calls Tryz.prog 71 #[tokV t A c, .int .i64 who] w fun e w' => e = .returned (.bool (isT t who)) ∧ Below w.heap.size w w' :=
 has_any t A c who w hl hr fun W hW => contains_any A c t.gs who W hl (hr.below' hW)
def GrT (w : World) : Prop := Rd w w.heap.size (some ⟨0, 0, none⟩) [.int .i64 1, .int .i64 73, .int .i64 2, .int .i64 438, .int .i64 8, .int .i64 256]
theorem GrT.below {w w' : World} (h : GrT w) (hb : Below w.heap.size w w') : GrT w' := Rd.below' h hb
theorem GrT.cells {w : World} (h : GrT w) : 0 < w.heap.size ∧ w.cell? ⟨0, 0, none⟩ = some (.int .i64 1) ∧ w.cell? ⟨0, 1, none⟩ = some (.int .i64 73) ∧ w.cell? ⟨0, 2, none⟩ = some (.int .i64 2) ∧ w.cell? ⟨0, 3, none⟩ = some (.int .i64 438) ∧ w.cell? ⟨0, 4, none⟩ = some (.int .i64 8) ∧ w.cell? ⟨0, 5, none⟩ = some (.int .i64 256) := by
 obtain ⟨b, o, e, hB, hc⟩ := Rd.opened h (by simp)
 injection e with e
 injection e with e1 e2
 subst e1 e2
 exact ⟨hB, hc 0 _ rfl, hc 1 _ rfl, hc 2 _ rfl, hc 3 _ rfl, hc 4 _ rfl, hc 5 _ rfl⟩
set_option maxRecDepth 100000 in
set_option maxHeartbeats 1000000 in
theorem privileged_any (t : TokP) (A : Option Addr) (c : Nat) (w : World) (hg : GrT w) :
 Calls Tryz.prog 114 #[tokV t A c] w fun e w' => e = .returned (.int .i64 (prvR t.p 3)) ∧ Below w.heap.size w w' := by
 obtain ⟨u, gs, p⟩ := t
 unfold tokV
 dsimp only
 obtain ⟨h0, c0, c1, c2, c3, c4, c5⟩ := hg.cells
 obtain ⟨r1, h1⟩ : ∃ r, r = prvR p 1 := ⟨_, rfl⟩
 obtain ⟨r2, h2⟩ : ∃ r, r = prvR p 2 := ⟨_, rfl⟩
 obtain ⟨r3, h3⟩ : ∃ r, r = prvR p 3 := ⟨_, rfl⟩
 rw [← h3]
 have e1 : r1 = if (bits .and .i64 p 1 != 0) = true then bits .or .i64 0 73 else 0 := h1
 have e2 : r2 = if (bits .and .i64 p 2 != 0) = true then bits .or .i64 r1 438 else r1 := by rw [h1]; exact h2
 have e3 : r3 = if (bits .and .i64 p 8 != 0) = true then bits .or .i64 r2 256 else r2 := by rw [h2]; exact h3
 have E1 := Lib.hid e1
 have E2 := Lib.hid e2
 have E3 := Lib.hid e3
 clear e1 e2 e3 h1 h2 h3
 have hix0 : ∀ W, (Instr.index 156 (.agg #[.int .i64 1, .int .i64 73, .int .i64 2, .int .i64 438, .int .i64 8, .int .i64 256]) (.int .i64 0)).run Tryz.prog W = .ok (.agg #[.int .i64 1, .int .i64 73]) W := fun W => by kernel_rfl
 have hix1 : ∀ W, (Instr.index 156 (.agg #[.int .i64 1, .int .i64 73, .int .i64 2, .int .i64 438, .int .i64 8, .int .i64 256]) (.int .i64 1)).run Tryz.prog W = .ok (.agg #[.int .i64 2, .int .i64 438]) W := fun W => by kernel_rfl
 have hix2 : ∀ W, (Instr.index 156 (.agg #[.int .i64 1, .int .i64 73, .int .i64 2, .int .i64 438, .int .i64 8, .int .i64 256]) (.int .i64 2)).run Tryz.prog W = .ok (.agg #[.int .i64 8, .int .i64 256]) W := fun W => by kernel_rfl
 go_enter Tryz.func114, Tryz.ntmps114
 go_wp2
 go_loopw [3, 7] (fun r i wr => Below w.heap.size w wr ∧ wr.cell? ⟨w.heap.size, 2, none⟩ = some (.int .i64 p) ∧ ((i = .int .i64 0 ∧ r = .int .i64 0) ∨ (i = .int .i64 1 ∧ r = .int .i64 r1) ∨ (i = .int .i64 2 ∧ r = .int .i64 r2) ∨ (i = .int .i64 3 ∧ r = .int .i64 r3))) (fun _ i _ => 3 - (intOf i).toNat)
 case atStart => exact ⟨bel_alloc (Below.refl _ _) _, by simp, .inl ⟨rfl, rfl⟩⟩
 case round =>
  obtain ⟨hb, hp, hcase⟩ := hrel
  have hbs : w.heap.size < wr.heap.size := block_lt_of_cell hp
  rcases hcase with ⟨rfl, rfl⟩ | ⟨rfl, rfl⟩ | ⟨rfl, rfl⟩ | ⟨rfl, rfl⟩
  · cases hB : (bits .and .i64 p 1 != 0)
    · have H := Lib.hid (show r1 = 0 by rw [E1.out, hB]; rfl)
      go_wp2
      go_roundw
      case rel => exact ⟨bel_alloc hb _, ((bel_alloc (Below.refl _ wr) _).cell (p := ⟨w.heap.size, 2, none⟩) hbs).trans hp, .inr (.inl ⟨rfl, by rw [H.out]⟩)⟩
      case measure => simp [intOf]
    · have H := Lib.hid (show r1 = bits .or .i64 0 73 by rw [E1.out, hB]; rfl)
      go_wp2
      go_roundw
      case rel => exact ⟨bel_alloc hb _, ((bel_alloc (Below.refl _ wr) _).cell (p := ⟨w.heap.size, 2, none⟩) hbs).trans hp, .inr (.inl ⟨rfl, by rw [H.out] <;> rfl⟩)⟩
      case measure => simp [intOf]
  · cases hB : (bits .and .i64 p 2 != 0)
    · have H := Lib.hid (show r2 = r1 by rw [E2.out, hB]; rfl)
      go_wp2
      go_roundw
      case rel => exact ⟨bel_alloc hb _, ((bel_alloc (Below.refl _ wr) _).cell (p := ⟨w.heap.size, 2, none⟩) hbs).trans hp, .inr (.inr (.inl ⟨rfl, by rw [H.out]⟩))⟩
      case measure => simp [intOf]
    · have H := Lib.hid (show r2 = bits .or .i64 r1 438 by rw [E2.out, hB]; rfl)
      go_wp2
      go_roundw
      case rel => exact ⟨bel_alloc hb _, ((bel_alloc (Below.refl _ wr) _).cell (p := ⟨w.heap.size, 2, none⟩) hbs).trans hp, .inr (.inr (.inl ⟨rfl, by rw [H.out]⟩))⟩
      case measure => simp [intOf]
  · cases hB : (bits .and .i64 p 8 != 0)
    · have H := Lib.hid (show r3 = r2 by rw [E3.out, hB]; rfl)
      go_wp2
      go_roundw
      case rel => exact ⟨bel_alloc hb _, ((bel_alloc (Below.refl _ wr) _).cell (p := ⟨w.heap.size, 2, none⟩) hbs).trans hp, .inr (.inr (.inr ⟨rfl, by rw [H.out]⟩))⟩
      case measure => simp [intOf]
    · have H := Lib.hid (show r3 = bits .or .i64 r2 256 by rw [E3.out, hB]; rfl)
      go_wp2
      go_roundw
      case rel => exact ⟨bel_alloc hb _, ((bel_alloc (Below.refl _ wr) _).cell (p := ⟨w.heap.size, 2, none⟩) hbs).trans hp, .inr (.inr (.inr ⟨rfl, by rw [H.out]⟩))⟩
      case measure => simp [intOf]
  · go_wp2
    go_ret
    exact ⟨rfl, hb⟩
theorem counts_any (a : AceP) (w : World) (h0 : 0 ≤ a.f) (h1 : a.f ≤ 31) : Calls Tryz.prog 70 #[.agg #[.int .i64 a.k, .int .i64 a.f, .int .i64 a.m, .int .i64 a.w]] w fun e w' => e = .returned (.bool (cntB a)) ∧ Below w.heap.size w w' := by
 have h := cnt_bits a h0 h1
 obtain ⟨B, hB⟩ : ∃ B, B = cntB a := ⟨_, rfl⟩
 rw [← hB] at h ⊢
 have H := Lib.hid h
 clear h hB
 obtain ⟨k, f, m, v⟩ := a
 dsimp only at H ⊢
 go_enter Tryz.func70, Tryz.ntmps70
 go_wp2
 go_ret
 exact ⟨by rw [← H.out]; rfl, bel_alloc (Below.refl _ _) _⟩
end Go.Proofs.YtanicpgmbhfipaaGreatDoor
