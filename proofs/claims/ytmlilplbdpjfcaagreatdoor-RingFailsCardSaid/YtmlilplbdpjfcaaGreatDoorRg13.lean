/-
  Chapter 20: the reader of pages.
-/
import Derived.Test.YtmlilplbdpjfcaaGreatDoorRg12
import Derived.Test.YtmlilplbdpjfcaaGreatDoorBld
import Derived.Test.YtmlilplbdpjfcaaGreatDoorFlowM
namespace Go.Proofs.YtmlilplbdpjfcaaGreatDoor
set_option linter.unusedVariables false
set_option linter.unusedSimpArgs false
set_option maxRecDepth 4000
open Go.RowKit Go.Sort
def ptrV (o : Option Nat) : Value := .pointer (o.map fun b => ⟨b, 0, none⟩)
structure RdrP where
 s : List UInt8
 pg : Nat
 top : Int
def pagesP (x : RdrP) : List (List UInt8) := (List.range x.pg).map fun k => blkL x.s k
def ksM (ks : List (Nat × Option Nat)) : List (Int × Value) := ks.map fun p => ((p.1 : Int), ptrV p.2)
def rdrD (R m G : Nat) (ks : List (Nat × Option Nat)) (b : Nat) : Prop := b = R ∨ b = m ∨ b = G ∨ ∃ q, (q, some b) ∈ ks
def pgOk (x : RdrP) (X : World) (p : Nat × Option Nat) : Prop := match p.2 with
 | none => pgIn x.s x.pg x.top p.1 = none
 | some b => ∃ sq cs, pgIn x.s x.pg x.top p.1 = some (sq, cs) ∧ Box X b #[.int .i64 p.1, .int .i64 sq, .string (bs cs)] 149
structure RdrOk (x : RdrP) (R m G : Nat) (n c : Nat) (ks : List (Nat × Option Nat)) (X : World) : Prop where
 box : Box X R #[.slice (some ⟨G, 0, none⟩) n c, .int .i64 x.top, .map (some m)] 110
 row : X.ownsRow 0 9 1 (.slice (some ⟨G, 0, none⟩) n c) n (rowS (pagesP x))
 map : MapB X m (ksM ks)
 pgs : ∀ p ∈ ks, pgOk x X p
theorem RdrOk.stable {x : RdrP} {R m n c G : Nat} {ks : List (Nat × Option Nat)} (X X' : World) (h : RdrOk x R m G n c ks X) (hb : ∀ b, rdrD R m G ks b → X'.heap[b]? = X.heap[b]?) : RdrOk x R m G n c ks X' := by
 refine ⟨(hb R (.inl rfl)).trans h.box, ?_, ?_, fun p hp => ?_⟩
 · obtain ⟨h1, h2⟩ := h.row
   refine ⟨h1, ?_⟩
   rcases h2 with h2 | ⟨g, cap, cur, e1, e2, e3, e4⟩
   · exact .inl h2
   · refine .inr ⟨g, cap, cur, e1, e2, (hb g (.inr (.inr (.inl ?_)))).trans e3, e4⟩
     injection e1 with e1
     injection e1 with e1
     injection e1 with e1
     exact e1.symm
 · obtain ⟨es, clock, h1, h2⟩ := h.map
   exact ⟨es, clock, (hb m (.inr (.inl rfl))).trans h1, h2⟩
 · have h1 := h.pgs p hp
   unfold pgOk at h1 ⊢
   obtain ⟨q, o⟩ := p
   cases o with
   | none => exact h1
   | some b =>
    obtain ⟨sq, cs, h2, h3⟩ := h1
    exact ⟨sq, cs, h2, (hb b (.inr (.inr (.inr ⟨q, hp⟩)))).trans h3⟩
structure RdrRel (R m G : Nat) (k0 : List (Nat × Option Nat)) (w0 : World) (ks : List (Nat × Option Nat)) (X : World) : Prop where
 sub : ∀ y ∈ k0, y ∈ ks
 same : ∀ b, rdrD R m G k0 b → b ≠ m → X.heap[b]? = w0.heap[b]?
theorem rdrD_mono {R m G : Nat} {k0 ks : List (Nat × Option Nat)} (h : ∀ y ∈ k0, y ∈ ks) {b : Nat} (hb : rdrD R m G k0 b) : rdrD R m G ks b := by
 rcases hb with h1 | h1 | h1 | ⟨q, h1⟩
 · exact .inl h1
 · exact .inr (.inl h1)
 · exact .inr (.inr (.inl h1))
 · exact .inr (.inr (.inr ⟨q, h _ h1⟩))
theorem RdrRel.stable {R m G : Nat} {k0 ks : List (Nat × Option Nat)} {w0 : World} (X X' : World) (h : RdrRel R m G k0 w0 ks X) (hb : ∀ b, rdrD R m G ks b → X'.heap[b]? = X.heap[b]?) : RdrRel R m G k0 w0 ks X' :=
 ⟨h.sub, fun b hD hne => (hb b (rdrD_mono h.sub hD)).trans (h.same b hD hne)⟩
theorem RdrRel.refl {R m G : Nat} {ks : List (Nat × Option Nat)} {w : World} : RdrRel R m G ks w ks w := ⟨fun _ h => h, fun _ _ _ => rfl⟩
theorem RdrRel.trans {R m G : Nat} {k0 k1 k2 : List (Nat × Option Nat)} {w0 w1 w2 : World} (h : RdrRel R m G k0 w0 k1 w1) (k : RdrRel R m G k1 w1 k2 w2) : RdrRel R m G k0 w0 k2 w2 :=
 ⟨fun y hy => k.sub y (h.sub y hy), fun b hD hne => (k.same b (rdrD_mono h.sub hD) hne).trans (h.same b hD hne)⟩
theorem RdrRel.step {R m G : Nat} {k0 k1 k2 : List (Nat × Option Nat)} {w0 X X' : World} (h : RdrRel R m G k0 w0 k1 X) (hk : ∀ y ∈ k1, y ∈ k2) (hb : ∀ b, b ≠ m → X'.heap[b]? = X.heap[b]?) : RdrRel R m G k0 w0 k2 X' :=
 ⟨fun y hy => hk y (h.sub y hy), fun b hD hne => (hb b hne).trans (h.same b hD hne)⟩
def rdrE (x : RdrP) (R m G : Nat) (n c : Nat) (k0 : List (Nat × Option Nat)) (w0 : World) (ks : List (Nat × Option Nat)) : Ent :=
 .inv (rdrD R m G ks) (fun X => RdrOk x R m G n c ks X ∧ RdrRel R m G k0 w0 ks X) (fun X X' h hb => ⟨RdrOk.stable X X' h.1 hb, RdrRel.stable X X' h.2 hb⟩)
theorem lookM_ks {ks : List (Nat × Option Nat)} {q : Nat} {v : Value} (h : lookM (ksM ks) q = some v) : ∃ o, v = ptrV o ∧ (q, o) ∈ ks := by
 unfold lookM ksM at h
 rw [List.find?_map, Option.map_map] at h
 cases hf : ks.find? ((fun p : Int × Value => p.1 == (q : Int)) ∘ fun p => ((p.1 : Int), ptrV p.2)) with
 | none => rw [hf] at h; cases h
 | some p =>
  rw [hf] at h
  injection h with h
  have h1 := List.find?_some hf
  have h2 := List.mem_of_find?_eq_some hf
  have h3 : p.1 = q := by
   have : ((p.1 : Int) == (q : Int)) = true := h1
   have := eq_of_beq this
   omega
  exact ⟨p.2, h.symm, by rw [← h3]; exact h2⟩
theorem rdr_none {M : List Nat} {w X X' : World} {L : List Ent} {i : Nat} {x : RdrP} {R m n c q G : Nat} {k0 : List (Nat × Option Nat)} {w0 : World} {ks : List (Nat × Option Nat)} (h : St M w X L) (hi : L[i]? = some (rdrE x R m G n c k0 w0 ks)) (hos : X'.os = X.os) (htape : X'.tape = X.tape) (hout : X'.output = X.output) (hsz : X'.heap.size = X.heap.size)
 (hblk : ∀ b, b ≠ m → X'.heap[b]? = X.heap[b]?) (hm : MapB X' m (ksM ks ++ [((q : Int), ptrV none)])) (hp : pgIn x.s x.pg x.top q = none) : St M w X' (L.set i (rdrE x R m G n c k0 w0 (ks ++ [(q, none)]))) := by
 obtain ⟨hok, hrl⟩ : RdrOk x R m G n c ks X ∧ RdrRel R m G k0 w0 ks X := h.at_ hi
 obtain ⟨es, clock, hmap, _⟩ := hok.map
 have cells_ne : ∀ (b : Nat) (cs : Array Value) (T : TypeId) (fr : Nat × Nat), X.heap[b]? = some (.cells cs T fr) → b ≠ m := fun b cs T fr hb e => by rw [e, hmap] at hb; cases hb
 refine h.turn hi hos htape hout (by omega) (fun b hb hne => hblk b (fun e => hne (.inr (.inl e)))) ⟨⟨?_, ?_, ?_, ?_⟩, hrl.step (fun y hy => List.mem_append_left _ hy) hblk⟩ (fun b hb => ?_)
 · exact (hblk R (cells_ne _ _ _ _ hok.box)).trans hok.box
 · obtain ⟨h1, h2⟩ := hok.row
   refine ⟨h1, ?_⟩
   rcases h2 with h2 | ⟨g, cap, cur, e1, e2, e3, e4⟩
   · exact .inl h2
   · exact .inr ⟨g, cap, cur, e1, e2, (hblk g (cells_ne _ _ _ _ e3)).trans e3, e4⟩
 · have : ksM (ks ++ [(q, none)]) = ksM ks ++ [((q : Int), ptrV none)] := by unfold ksM; rw [List.map_append]; rfl
   rw [this]; exact hm
 · intro p hp'
   rcases List.mem_append.1 hp' with h1 | h1
   · have h2 := hok.pgs p h1
     obtain ⟨q', o⟩ := p
     cases o with
     | none => exact h2
     | some b =>
      obtain ⟨sq, cs, h3, h4⟩ := h2
      exact ⟨sq, cs, h3, (hblk b (cells_ne _ _ _ _ h4)).trans h4⟩
   · rw [List.mem_singleton.1 h1]; exact hp
 · have hb' : rdrD R m G (ks ++ [(q, none)]) b := hb
   have hD : rdrD R m G ks b := by
    rcases hb' with h1 | h1 | h1 | ⟨q', h1⟩
    · exact .inl h1
    · exact .inr (.inl h1)
    · exact .inr (.inr (.inl h1))
    · rcases List.mem_append.1 h1 with h2 | h2
      · exact .inr (.inr (.inr ⟨q', h2⟩))
      · have := List.mem_singleton.1 h2; injection this with _ h3; cases h3
   exact ⟨.inl hD, by rw [hsz]; exact (h.new _ (List.mem_of_getElem? hi) b hD).2⟩
theorem rdr_some {M : List Nat} {w X X' : World} {L : List Ent} {i b0 : Nat} {x : RdrP} {R m n c q G : Nat} {k0 : List (Nat × Option Nat)} {w0 : World} {sq : Int} {cs0 : List UInt8} {ks : List (Nat × Option Nat)} (h : St M w X (.box b0 #[.int .i64 q, .int .i64 sq, .string (bs cs0)] 149 :: L)) (hi : L[i]? = some (rdrE x R m G n c k0 w0 ks)) (hos : X'.os = X.os) (htape : X'.tape = X.tape) (hout : X'.output = X.output) (hsz : X'.heap.size = X.heap.size)
 (hblk : ∀ b, b ≠ m → X'.heap[b]? = X.heap[b]?) (hm : MapB X' m (ksM ks ++ [((q : Int), ptrV (some b0))])) (hp : pgIn x.s x.pg x.top q = some (sq, cs0)) : St M w X' (L.set i (rdrE x R m G n c k0 w0 (ks ++ [(q, some b0)]))) := by
 obtain ⟨hok, hrl⟩ : RdrOk x R m G n c ks X ∧ RdrRel R m G k0 w0 ks X := h.ok _ (List.mem_cons_of_mem _ (List.mem_of_getElem? hi))
 have hb0 : Box X b0 #[.int .i64 q, .int .i64 sq, .string (bs cs0)] 149 := h.ok _ (List.mem_cons_self ..)
 obtain ⟨es, clock, hmap, _⟩ := hok.map
 have cells_ne : ∀ (b : Nat) (cs : Array Value) (T : TypeId) (fr : Nat × Nat), X.heap[b]? = some (.cells cs T fr) → b ≠ m := fun b cs T fr hb e => by rw [e, hmap] at hb; cases hb
 refine h.merge hi hos htape hout (by omega) (fun b hb hne _ => hblk b (fun e => hne (.inr (.inl e)))) ⟨⟨?_, ?_, ?_, ?_⟩, hrl.step (fun y hy => List.mem_append_left _ hy) hblk⟩ (fun b hb => ?_)
 · exact (hblk R (cells_ne _ _ _ _ hok.box)).trans hok.box
 · obtain ⟨h1, h2⟩ := hok.row
   refine ⟨h1, ?_⟩
   rcases h2 with h2 | ⟨g, cap, cur, e1, e2, e3, e4⟩
   · exact .inl h2
   · exact .inr ⟨g, cap, cur, e1, e2, (hblk g (cells_ne _ _ _ _ e3)).trans e3, e4⟩
 · have : ksM (ks ++ [(q, some b0)]) = ksM ks ++ [((q : Int), ptrV (some b0))] := by unfold ksM; rw [List.map_append]; rfl
   rw [this]; exact hm
 · intro p hp'
   rcases List.mem_append.1 hp' with h1 | h1
   · have h2 := hok.pgs p h1
     obtain ⟨q', o⟩ := p
     cases o with
     | none => exact h2
     | some b =>
      obtain ⟨sq, cs, h3, h4⟩ := h2
      exact ⟨sq, cs, h3, (hblk b (cells_ne _ _ _ _ h4)).trans h4⟩
   · rw [List.mem_singleton.1 h1]
     exact ⟨sq, cs0, hp, (hblk b0 (cells_ne _ _ _ _ hb0)).trans hb0⟩
 · have hb' : rdrD R m G (ks ++ [(q, some b0)]) b := hb
   have hD : rdrD R m G ks b ∨ b = b0 := by
    rcases hb' with h1 | h1 | h1 | ⟨q', h1⟩
    · exact .inl (.inl h1)
    · exact .inl (.inr (.inl h1))
    · exact .inl (.inr (.inr (.inl h1)))
    · rcases List.mem_append.1 h1 with h2 | h2
      · exact .inl (.inr (.inr (.inr ⟨q', h2⟩)))
      · have := List.mem_singleton.1 h2
        injection this with _ h3
        injection h3 with h3
        exact .inr h3
   rcases hD with hD | hD
   · exact ⟨.inl hD, by rw [hsz]; exact (h.new _ (List.mem_cons_of_mem _ (List.mem_of_getElem? hi)) b hD).2⟩
   · subst hD
     exact ⟨.inr (.inl rfl), by rw [hsz]; exact hb0.lt⟩
structure RdrB (x : RdrP) : Prop where
 len : x.s.length = 512 * x.pg
 pg : 4 ≤ x.pg ∧ x.pg ≤ 40
 top : x.top ≤ 60000
theorem blkL_len {x : RdrP} (h : RdrB x) (q : Nat) : (blkL x.s (2 + q % (x.pg - 2))).length = 512 := blkL_length h.len (room_lt h.pg.1)
theorem pagesP_get {x : RdrP} (k : Nat) (hk : k < x.pg) : (rowS (pagesP x))[k]? = some (strV (bs (blkL x.s k))) := by
 unfold rowS pagesP
 rw [List.map_map, List.getElem?_map, List.getElem?_range hk]; rfl
theorem RdrOk.n {x : RdrP} {R m n c G : Nat} {ks : List (Nat × Option Nat)} {X : World} (h : RdrOk x R m G n c ks X) : n = x.pg := by
 have := h.row.1
 unfold rowS pagesP at this
 simp at this
 exact this.symm
theorem open_l (l : List UInt8) (w : World) (hl : l.length ≤ 1000000) :
 Calls Tryz.prog 87 #[.string (bs l)] w fun e w' => e = .returned (.tuple #[.string (if opnE l = 0 then bs (opL l) else ⟨#[]⟩), .int .i64 (if opnE l = 0 then usnL l else 0), .int .i64 (opnE l)]) ∧ Below w.heap.size w w' := by
 have := OpenBlock_any (bs l) w (by rw [bs_size]; exact hl)
 rw [bl_bs] at this; exact this
theorem rdAt1 {X : World} {B b o k : Nat} {xs : List Value} {v : Value} (h : Rd X B (some ⟨b, o, none⟩) xs) (hk : xs[k]? = some v) : ∀ (j : Nat) (u : Value), [v][j]? = some u → X.cell? ⟨b, o + k * 1 + j, none⟩ = some u := fun j u hu => by
 have hj : j < 1 := (List.getElem?_eq_some_iff.1 hu).1
 obtain rfl : j = 0 := by omega
 injection hu with hu
 obtain ⟨b', o', e, _, hc⟩ := h k v hk
 injection e with e
 injection e with e1 e2
 subst e1 e2
 rw [Nat.mul_one, Nat.add_zero, ← hu]; exact hc
theorem bs_extract (l : List UInt8) (a b : Nat) : (bs l).extract a b = bs ((l.drop a).take (b - a)) := by
 apply bl_inj
 rw [bl_bs]
 have : bl ((bs l).extract a b) = ((bl (bs l)).drop a).take (b - a) := by
  unfold bl; rw [ByteArray.data_extract, Array.toList_extract, List.extract_eq_take_drop]
 rw [this, bl_bs]
def rdrM (R m G : Nat) (ks : List (Nat × Option Nat)) : List Nat := R :: m :: G :: ks.filterMap (·.2)
theorem mem_rdrM {R m G : Nat} {ks : List (Nat × Option Nat)} {b : Nat} : b ∈ rdrM R m G ks ↔ rdrD R m G ks b := by
 unfold rdrM rdrD
 simp only [List.mem_cons, List.mem_filterMap]
 constructor
 · rintro (h | h | h | ⟨⟨q, o⟩, h1, h2⟩)
   · exact .inl h
   · exact .inr (.inl h)
   · exact .inr (.inr (.inl h))
   · exact .inr (.inr (.inr ⟨q, by rw [← h2]; exact h1⟩))
 · rintro (h | h | h | ⟨q, h⟩)
   · exact .inl h
   · exact .inr (.inl h)
   · exact .inr (.inr (.inl h))
   · exact .inr (.inr (.inr ⟨_, h, rfl⟩))
def RdrNo (x : RdrP) (R m G n c : Nat) (ks : List (Nat × Option Nat)) (X : World) : Prop := ∃ X0, RdrOk x R m G n c ks X0 ∧ ∀ b, b ≠ m → rdrD R m G ks b → X.heap[b]? = X0.heap[b]?
def rdrR (x : RdrP) (R m G n c : Nat) (ks : List (Nat × Option Nat)) : Ent := .inv (fun b => b ≠ m ∧ rdrD R m G ks b) (RdrNo x R m G n c ks) (fun X X' ⟨X0, h1, h2⟩ hb => ⟨X0, h1, fun b hne hD => (hb b ⟨hne, hD⟩).trans (h2 b hne hD)⟩)
theorem RdrOk.ne_map {x : RdrP} {R m G n c : Nat} {ks : List (Nat × Option Nat)} {X : World} (h : RdrOk x R m G n c ks X) {b : Nat} {cs : Array Value} {T : TypeId} {fr : Nat × Nat} (hb : X.heap[b]? = some (.cells cs T fr)) : b ≠ m := fun e => by
 obtain ⟨es, ck, h1, _⟩ := h.map
 rw [e, h1] at hb; cases hb
theorem St.growMap {M : List Nat} {w0 w X : World} {L : List Ent} {x : RdrP} {R m G n c i : Nat} {k0 ks : List (Nat × Option Nat)} {w1 : World} (h : St M w0 w L) (hi : L[i]? = some (rdrE x R m G n c k0 w1 ks)) (hX : Grw (fun b _ => b = m) w X) : St M w0 X (L.set i (rdrR x R m G n c ks)) :=
 h.turn hi hX.os hX.tape hX.output hX.size (fun b hb hne => hX.block b hb (fun e => hne (.inr (.inl e)))) ⟨w, (h.at_ hi).1, fun b hne hD => hX.block b (h.new _ (List.mem_of_getElem? hi) b hD).2 hne⟩
  (fun b hb => ⟨.inl hb.2, Nat.lt_of_lt_of_le (h.new _ (List.mem_of_getElem? hi) b hb.2).2 hX.size⟩)
def RdrU {ι : Type} (x : RdrP) (R m G n c : Nat) (ks : List (Nat × Option Nat)) (B : Nat) (V : ι → Value) (F : ι → Prop) (KS : ι → List (Nat × Option Nat)) (v : Value) (X : World) : Prop :=
 ∃ p, v = V p ∧ F p ∧ RdrOk x R m G n c (KS p) X ∧ (∀ y ∈ ks, y ∈ KS p) ∧ ∀ b, rdrD R m G (KS p) b → (rdrD R m G ks b ∨ B ≤ b) ∧ b < X.heap.size
theorem RdrU.stable {ι : Type} {x : RdrP} {R m G n c : Nat} {ks : List (Nat × Option Nat)} {B : Nat} {V : ι → Value} {F : ι → Prop} {KS : ι → List (Nat × Option Nat)} (v : Value) (X X' : World) (h : RdrU x R m G n c ks B V F KS v X) (hb : Below X.heap.size X X') : RdrU x R m G n c ks B V F KS v X' := by
 obtain ⟨p, h1, h2, h3, h4, h5⟩ := h
 exact ⟨p, h1, h2, RdrOk.stable X X' h3 (fun b hD => hb.block b (h5 b hD).2), h4, fun b hD => ⟨(h5 b hD).1, Nat.lt_of_lt_of_le (h5 b hD).2 hb.size⟩⟩
theorem only_map {x : RdrP} {R m G n c : Nat} {ks k1 : List (Nat × Option Nat)} {w w' : World} (h : St (rdrM R m G ks) w w' [rdrE x R m G n c ks w k1]) (b : Nat) (hb : b < w.heap.size) (hne : b ≠ m) : w'.heap[b]? = w.heap[b]? := by
 by_cases hm : b ∈ rdrM R m G ks
 · exact (h.at_ (i := 0) rfl).2.same b (mem_rdrM.1 hm) hne
 · exact h.block b hb hm
theorem lv_updR {ι : Type} {P : Program} {x : RdrP} {R m G n c B : Nat} {ks : List (Nat × Option Nat)} {V : ι → Value} {F : ι → Prop} {KS : ι → List (Nat × Option Nat)} {X : World} {f : FuncId} {args : Array Value} {r : Result Next} (hx : r = .ok (.enter f args) X) (hok : RdrOk x R m G n c ks X)
 (hc : Calls P f args X fun e X' => ∃ p, e = .returned (V p) ∧ F p ∧ St (rdrM R m G ks) X X' [rdrE x R m G n c ks X (KS p)]) (hB : B ≤ X.heap.size) : LeavesA P (fun b => b = m) 0 (RdrU x R m G n c ks B V F KS) X r := by
 subst hx
 refine ⟨rfl, hc.mono fun e X' ⟨p, h1, h2, h3⟩ => ⟨_, h1, ⟨⟨h3.os, h3.tape, h3.output, h3.size, fun b hb hne => only_map h3 b hb hne, fun b cs T fr hb => ⟨cs, rfl, ?_⟩⟩, fun b cs T fr hb => ⟨cs, ?_, rfl, rfl⟩⟩, p, rfl, h2, (h3.at_ (i := 0) rfl).1, (h3.at_ (i := 0) rfl).2.sub, fun b hD => ?_⟩⟩
 · exact (only_map h3 b (Array.getElem?_eq_some_iff.1 hb).1 (hok.ne_map hb)).trans hb
 · exact (only_map h3 b (Array.getElem?_eq_some_iff.1 hb).1 (hok.ne_map hb)).trans hb
 · obtain ⟨h4, h5⟩ := h3.new _ (List.mem_singleton.2 rfl) b hD
   refine ⟨?_, h5⟩
   rcases h4 with h4 | h4
   · exact .inr (Nat.le_trans hB h4)
   · exact .inl (mem_rdrM.1 h4)
theorem RdrU.pair {ι : Type} {x : RdrP} {R m G n c B : Nat} {ks : List (Nat × Option Nat)} {V : ι → Value} {F : ι → Prop} {KS : ι → List (Nat × Option Nat)} {u : Value} {X : World} (h : RdrU x R m G n c ks B V F KS u X) : PairU V F u X := by
 obtain ⟨p, e, h2, _⟩ := h
 exact ⟨p, e, h2⟩
theorem St.growUpd {ι : Type} {M : List Nat} {w0 w X w1 : World} {L : List Ent} {x : RdrP} {R m G n c i : Nat} {k0 ks : List (Nat × Option Nat)} {V : ι → Value} {F : ι → Prop} {KS : ι → List (Nat × Option Nat)} {v : Value} (h : St M w0 w L) (hi : L[i]? = some (rdrE x R m G n c k0 w1 ks)) (hX : Grw (fun b _ => b = m) w X)
 (hq : RdrU x R m G n c ks w.heap.size V F KS v X) : ∃ p, v = V p ∧ F p ∧ St M w0 X (L.set i (rdrE x R m G n c k0 w1 (KS p))) := by
 obtain ⟨p, h1, h2, h3, h4, h5⟩ := hq
 have hlt := fun b hD => (h.new _ (List.mem_of_getElem? hi) b hD).2
 refine ⟨p, h1, h2, h.turn hi hX.os hX.tape hX.output hX.size (fun b hb hne => hX.block b hb (fun e => hne (.inr (.inl e)))) ⟨h3, (h.at_ hi).2.trans ⟨h4, fun b hD hne => hX.block b (hlt b hD) hne⟩⟩ (fun b hD => ⟨(h5 b hD).1, (h5 b hD).2⟩)⟩
def rdrTy (T : TypeId) : Prop := T = 149 ∨ T = 110 ∨ T = 9
theorem RdrOk.types {x : RdrP} {R m G n c : Nat} {ks : List (Nat × Option Nat)} {X : World} (h : RdrOk x R m G n c ks X) (hn : 0 < n) {b : Nat} (hD : rdrD R m G ks b) {cs : Array Value} {T : TypeId} {fr : Nat × Nat} (hb : X.heap[b]? = some (.cells cs T fr)) (hnone : ∀ q, (q, none) ∈ ks → True) : rdrTy T := by
 rcases hD with rfl | rfl | rfl | ⟨q, hq⟩
 · have := (h.box : X.heap[b]? = _).symm.trans hb
   injection this with e; injection e with _ e; exact .inr (.inl e.symm)
 · exact absurd rfl (h.ne_map hb)
 · obtain ⟨_, h2⟩ := h.row
   rcases h2 with ⟨h2, _⟩ | ⟨g, cap, cur, e1, _, e3, _⟩
   · cases h2
   · injection e1 with e1
     injection e1 with e1
     injection e1 with e1
     rw [← e1, hb] at e3
     injection e3 with e; injection e with _ e; exact .inr (.inr e)
 · obtain ⟨sq, cs', _, h3⟩ := h.pgs _ hq
   have := (h3 : X.heap[b]? = _).symm.trans hb
   injection this with e; injection e with _ e; exact .inl e.symm
theorem RdrU.newT {ι : Type} {x : RdrP} {R m G n c B B' : Nat} {T : TypeId} {ks : List (Nat × Option Nat)} {V : ι → Value} {F : ι → Prop} {KS : ι → List (Nat × Option Nat)} (hn : 0 < n) (hT : ¬ rdrTy T) (v : Value) (X X' : World) (h : RdrU x R m G n c ks B V F KS v X) (hX : Grw (NewT B' T) X X') : RdrU x R m G n c ks B V F KS v X' := by
 obtain ⟨p, h1, h2, h3, h4, h5⟩ := h
 refine ⟨p, h1, h2, RdrOk.stable X X' h3 (fun b hD => hX.block b (h5 b hD).2 ?_), h4, fun b hD => ⟨(h5 b hD).1, Nat.lt_of_lt_of_le (h5 b hD).2 hX.size⟩⟩
 rintro ⟨_, cs, fr, e⟩
 exact hT (h3.types hn hD e (fun _ _ => trivial))
theorem St.growUpd1 {ι : Type} {M : List Nat} {w0 w X w1 : World} {L : List Ent} {x : RdrP} {R m G n c i b : Nat} {k0 ks : List (Nat × Option Nat)} {V : ι → Value} {F : ι → Prop} {KS : ι → List (Nat × Option Nat)} {v : Value} {cs : Array Value} {T : TypeId} (h : St M w0 w L) (hi : L[i]? = some (rdrE x R m G n c k0 w1 ks)) (hX : Grw (fun b _ => b = m) w X)
 (hq : RdrU x R m G n c ks w.heap.size V F KS v X) (hn : 0 < n) (hb : Box X b cs T) (hB : w.heap.size ≤ b) (hT : ¬ rdrTy T) : ∃ p, v = V p ∧ F p ∧ St M w0 X (.box b cs T :: L.set i (rdrE x R m G n c k0 w1 (KS p))) := by
 obtain ⟨p, h1, h2, h3⟩ := h.growUpd hi hX hq
 refine ⟨p, h1, h2, h3.os, h3.tape, h3.output, h3.size, h3.block, fun e he => ?_, fun e he k hk => ?_, List.pairwise_cons.2 ⟨fun e he k hk hek => ?_, h3.sep⟩⟩
 · rcases List.mem_cons.1 he with rfl | he
   · exact hb
   · exact h3.ok e he
 · rcases List.mem_cons.1 he with rfl | he
   · have hk' : k = b := hk
     rw [hk']; exact ⟨.inl (Nat.le_trans h.size hB), hb.lt⟩
   · exact h3.new e he k hk
 · have hk' : k = b := hk
   subst hk'
   obtain ⟨j, hj, rfl⟩ := List.getElem_of_mem he
   rw [List.getElem_set] at hek
   rw [List.length_set] at hj
   split at hek
   · have hil : i < L.length := (List.getElem?_eq_some_iff.1 hi).1
     have hmem : rdrE x R m G n c k0 w1 (KS p) ∈ L.set i (rdrE x R m G n c k0 w1 (KS p)) := List.mem_of_getElem? (i := i) (by rw [List.getElem?_set_self hil])
     have hok : RdrOk x R m G n c (KS p) X := (h3.ok _ hmem).1
     exact hT (hok.types hn hek hb (fun _ _ => trivial))
   · have := (h.new _ (List.getElem_mem hj) k hek).2
     omega
theorem St.rdrTrans {M : List Nat} {w0 X X' w1 : World} {L L' : List Ent} {x : RdrP} {R m G n c i j : Nat} {k0 k1 k2 : List (Nat × Option Nat)} (h : St M w0 X L) (hi : L[i]? = some (rdrE x R m G n c k0 w1 k1)) (h' : St M w0 X' L') (hj : L'[j]? = some (rdrE x R m G n c k1 X k2)) : St M w0 X' (L'.set j (rdrE x R m G n c k0 w1 k2)) :=
 h'.as_i hj (fun b hb => hb) ⟨(h'.at_ hj).1, (h.at_ hi).2.trans (h'.at_ hj).2⟩
theorem rdpage_any (x : RdrP) (hx : RdrB x) (R m G n c : Nat) (ks : List (Nat × Option Nat)) (q : Nat) (hq : q < 4000000) (w : World) (hok : RdrOk x R m G n c ks w) (hM : ∀ b, rdrD R m G ks b → b < w.heap.size) :
 Calls Tryz.prog 109 #[.pointer (some ⟨R, 0, none⟩), .int .i64 q] w fun r w' => ∃ p : Option Nat × List (Nat × Option Nat), r = .returned (ptrV p.1) ∧ ((q, p.1) ∈ p.2 ∧ ∀ y ∈ ks, y ∈ p.2) ∧ St (rdrM R m G ks) w w' [rdrE x R m G n c ks w p.2] := by
 obtain rfl := hok.n
 have hpg := hx.pg
 have hlt := room_lt (q := q) hpg.1
 have hmi : 2 + (q : Int) % ((x.pg : Int) - 2) = ((2 + q % (x.pg - 2) : Nat) : Int) := by
  have h1 : (x.pg : Int) - 2 = ((x.pg - 2 : Nat) : Int) := by omega
  rw [h1, ← Int.natCast_emod]; omega
 have hmod : 0 ≤ (q : Int) % ((x.pg : Int) - 2) ∧ (q : Int) % ((x.pg : Int) - 2) < (x.pg : Int) - 2 := ⟨Int.emod_nonneg _ (by omega), Int.emod_lt_of_pos _ (by omega)⟩
 have hpi : pgIn x.s x.pg x.top q = _ := rfl
 conv at hpi => rhs; unfold pgIn
 have hBl := blkL_len hx q
 generalize hBB : blkL x.s (2 + q % (x.pg - 2)) = B at hpi hBl
 have hgt : (rowS (pagesP x))[2 + q % (x.pg - 2)]? = some (strV (bs B)) := by rw [← hBB]; exact pagesP_get _ hlt
 have hosz : (bs (opL B)).size = 512 := by rw [bs_size, opL_length hBl]
 have hol := opL_length hBl
 have hg14 := g32_bd (opL B) (0 + 14 * 1)
 have hg12 := g16_bd (opL B) (0 + 12 * 1)
 have e14 : g32 (opL B) (0 + 14 * 1) = nAt (opL B) 14 4 := g32_nAt (by omega)
 have e12 : g16 (opL B) (0 + 12 * 1) = nAt (opL B) 12 2 := g16_nAt (by omega)
 obtain ⟨sq, hsq⟩ : ∃ y, nAt (opL B) 14 4 = y := ⟨_, rfl⟩
 obtain ⟨us, hus⟩ : ∃ y, nAt (opL B) 12 2 = y := ⟨_, rfl⟩
 have hsb := nAt_bd (opL B) 14 4
 have hub := nAt_bd (opL B) 12 2
 rw [hsq] at hpi e14 hsb
 rw [hus] at hpi e12 hub
 obtain ⟨cs, hcs⟩ : ∃ y, ((opL B).drop 64).take us.toNat = y := ⟨_, rfl⟩
 rw [hcs] at hpi
 have hcl : us ≤ 448 → (cs.length : Int) ≤ 448 := fun h => by
  have := List.length_take_le us.toNat ((opL B).drop 64)
  rw [hcs] at this; omega
 have hOe : opnE B = if opB B = false then 31 else 0 := by unfold opnE; rw [if_neg (by simpa using hBl)]
 refine st_enter (N := 99) Tryz.func109 rfl rfl rfl (fun a0 h0 => ?_)
 have S0 := (St.initInv ⟨hok, RdrRel.refl⟩ (fun b hb => ⟨mem_rdrM.2 hb, hM b hb⟩) : St (rdrM R m G ks) w w [rdrE x R m G x.pg c ks w ks])
 refine st_seq (st_reg ?_)
 refine ma h0 rfl rfl fun a1 h1 => ?_
 refine st_nil (go_then (st_seq (st_seq (st_reg ?_))))
 refine mv h1 rfl rfl fun a2 h2 => ?_
 refine sv h2 (ex_nilck (h2.ev rfl)) fun a3 h3 => ?_
 refine sv h3 (ex_field (off := 2) (by kernel_rfl) (h3.ev rfl) rfl) fun a4 h4 => ?_
 refine sv h4 (ex_load (by kernel_rfl) (h4.ev rfl) ((box_all (S0.at_ (i := 0) rfl).1.box) 2 _ rfl)) fun a5 h5 => ?_
 refine mv h5 rfl rfl fun a6 h6 => ?_
 refine sv h6 (ex_lookup (z := .pointer none) Tryz.underlying108 Tryz.underlying3 (by kernel_rfl) (h6.ev rfl) (h6.ev rfl) (S0.at_ (i := 0) rfl).1.map) fun a7 h7 => ?_
 refine mv h7 rfl rfl fun a8 h8 => ?_
 refine vx h8 rfl rfl rfl fun a9 h9 => ?_
 refine vx h9 rfl rfl rfl fun a10 h10 => ?_
 refine ma h10 rfl rfl fun a11 h11 => ?_
 refine ma h11 rfl rfl fun a12 h12 => ?_
 refine nsr ?_
 refine mv h12 rfl rfl fun a13 h13 => ?_
 refine st_nil (go_then ?_)
 refine st_if (h13.ev rfl) (fun hc0 => ?_) (fun hc0 => ?_)
 ·
  obtain ⟨v0, hv0⟩ := Option.isSome_iff_exists.1 hc0
  obtain ⟨o0, ho1, ho2⟩ := lookM_ks hv0
  refine st_seq (st_reg ?_)
  refine mv h13 rfl rfl fun a14 h14 => ?_
  refine ma h14 rfl rfl fun a15 h15 => ?_
  refine st_nil (go_then (wp_ret (ret_then ?_)))
  refine fin1 h15 rfl rfl ?_
  subst ho1
  exact ⟨(o0, ks), (by show Ending.returned ((lookM (ksM ks) q).getD (.pointer none)) = _; rw [hv0]; rfl), ⟨ho2, fun y hy => hy⟩, S0⟩
 ·
  have hnone : lookM (ksM ks) q = none := by simpa using hc0
  refine wp_skip (go_then (st_seq (st_reg ?_)))
  refine mv h13 rfl rfl fun a16 h16 => ?_
  refine sv h16 (ex_nilck (h16.ev rfl)) fun a17 h17 => ?_
  refine sv h17 (ex_field (off := 0) (by kernel_rfl) (h17.ev rfl) rfl) fun a18 h18 => ?_
  refine sv h18 (ex_load (by kernel_rfl) (h18.ev rfl) ((box_all (S0.at_ (i := 0) rfl).1.box) 0 _ rfl)) fun a19 h19 => ?_
  refine sv h19 (ex_len Tryz.underlying80 (h19.ev rfl)) fun a20 h20 => ?_
  refine sv h20 (ex_sub (h20.ev rfl) (h20.ev rfl) (by omega)) fun a21 h21 => ?_
  refine ma h21 rfl rfl fun a22 h22 => ?_
  refine st_nil (go_then (st_seq ?_))
  apply dr_flow h22 [false, false, false, false, false, false, false, false] _ (by kernel_rfl)
  case h =>
   refine qv h22 (fun X hX => ex_move (h22.ev rfl)) fun a23 h23 => ?_
   refine qv h23 (fun X hX => ex_nilck (h23.ev rfl)) fun a24 h24 => ?_
   refine qv h24 (fun X hX => ex_field (off := 0) (by kernel_rfl) (h24.ev rfl) rfl) fun a25 h25 => ?_
   refine qv h25 (fun X hX => ex_load (by kernel_rfl) (h25.ev rfl) ((box_all ((S0.grow hX).at_ (i := 0) rfl).1.box) 0 _ rfl)) fun a26 h26 => ?_
   refine qv h26 (fun X hX => ex_move (h26.ev rfl)) fun a27 h27 => ?_
   refine qv h27 (fun X hX => ex_move (h27.ev rfl)) fun a28 h28 => ?_
   refine qv h28 (fun X hX => ex_rem (h28.ev rfl) (h28.ev rfl) ⟨by omega, by omega⟩) fun a29 h29 => ?_
   refine qv h29 (fun X hX => ex_add (h29.ev rfl) (h29.ev rfl) (by omega)) fun a30 h30 => ?_
   refine sq_nil ?_
   refine nd_end fun X31 hX31 hΦ31 => ?_
   have S31 := S0.grow hX31
   refine sv h30 (ex_index (i := (2 + q % (x.pg - 2))) (sz := 1) Tryz.underlying80 (by kernel_rfl) (h30.ev rfl) (h30.ev rfl) hmi hlt rfl) fun a32 h32 => ?_
   refine sv (v := strV (bs B)) h32 (ex_load (by kernel_rfl) (h32.ev rfl) ((rdAt1 (Rd.of_own (S31.at_ (i := 0) rfl).1.row) hgt) 0 _ rfl)) fun a33 h33 => ?_
   refine ma h33 rfl rfl fun a34 h34 => ?_
   refine nsr ?_
   refine ma h34 rfl rfl fun a35 h35 => ?_
   refine st_nil (go_then (st_seq (st_seq (st_reg ?_))))
   refine mv h35 rfl rfl fun a36 h36 => ?_
   refine sl_bel h36 (wn rfl) (ex_call (fun _ _ => by kernel_rfl) (h36.evs rfl) rfl) rfl rfl S31 (open_l B _ (by omega)) fun a37 X37 h37 S37 => ?_
   refine mv h37 rfl rfl fun a38 h38 => ?_
   refine vx h38 rfl rfl rfl fun a39 h39 => ?_
   refine vx h39 rfl rfl rfl fun a40 h40 => ?_
   refine vx h40 rfl rfl rfl fun a41 h41 => ?_
   refine ma h41 rfl rfl fun a42 h42 => ?_
   refine ma h42 rfl rfl fun a43 h43 => ?_
   refine ma h43 rfl rfl fun a44 h44 => ?_
   refine nsr ?_
   refine mv h44 rfl rfl fun a45 h45 => ?_
   refine sv h45 (ex_eql (h45.ev rfl) (h45.ev rfl)) fun a46 h46 => ?_
   refine st_nil (go_then ?_)
   refine st_if (h46.ev rfl) (fun hc1 => ?_) (fun hc1 => ?_)
   ·
    have hO : opnE B = 0 := by simpa using hc1
    have hB : opB B = true := by
     rw [hOe] at hO
     cases h : opB B with
     | true => rfl
     | false => rw [h] at hO; simp at hO
    rw [if_neg (by rw [hB]; decide)] at hpi
    rw [show (if opnE B = 0 then bs (opL B) else ⟨#[]⟩) = bs (opL B) from if_pos hO] at h46
    refine st_seq (st_reg ?_)
    refine mv h46 rfl rfl fun a47 h47 => ?_
    refine sl_bytes h47 (wn rfl) ⟨rfl, rfl⟩ rfl Tryz.underlying9 Tryz.underlying130 Tryz.underlying5 (h47.ev rfl) S37 fun b52 cb52 a48 X48 gb52 zb52 h48 S48 => ?_
    refine ma h48 rfl rfl fun a49 h49 => ?_
    replace S48 := S48.byEq (i := 0) (l' := opL B) rfl (bl_bs _)
    refine nsr ?_
    refine mv h49 rfl rfl fun a50 h50 => ?_
    refine mv h50 rfl rfl fun a51 h51 => ?_
    refine sv h51 (ex_slice (l := 14) (h := (bs (opL B)).size) (sz := 1) Tryz.underlying130 (by kernel_rfl) (h51.ev rfl) (h51.ev rfl) rfl (by omega) (by omega) (.inl (by omega)) rfl) fun a52 h52 => ?_
    refine sl_bel h52 (wn rfl) (ex_call (fun _ _ => by kernel_rfl) (h52.evs rfl) rfl) rfl rfl S48 (get32_any b52 (0 + 14 * 1) ((bs (opL B)).size - 14) (cb52 - 14) (opL B) _ (S48.at_ (i := 0) rfl) (by omega) (by omega) (by omega)) fun a53 X53 h53 S53 => ?_
    rw [e14] at h53
    refine sv h53 (ex_convin (by kernel_rfl) Tryz.underlying3 (h53.ev rfl) (wrap_in (by omega))) fun a54 h54 => ?_
    refine sv (v := pageV q sq ⟨#[]⟩) h54 (ex_build (zs := [.int .i64 0, .int .i64 0, .string ⟨#[]⟩]) (pl := [(0, 1), (1, 1), (2, 1)]) (by kernel_rfl) (by kernel_rfl) (h54.evs2 rfl) rfl rfl) fun a55 h55 => ?_
    refine nb h55 rfl rfl S53 fun b59 a56 X56 gb59 h56 S56 => ?_
    refine ma h56 rfl rfl fun a57 h57 => ?_
    refine nsr ?_
    refine mv h57 rfl rfl fun a58 h58 => ?_
    refine sv h58 (ex_slice (l := 12) (h := (bs (opL B)).size) (sz := 1) Tryz.underlying130 (by kernel_rfl) (h58.ev rfl) (h58.ev rfl) rfl (by omega) (by omega) (.inl (by omega)) rfl) fun a59 h59 => ?_
    refine sl_bel h59 (wn rfl) (ex_call (fun _ _ => by kernel_rfl) (h59.evs rfl) rfl) rfl rfl S56 (get16_any b52 (0 + 12 * 1) ((bs (opL B)).size - 12) (cb52 - 12) (opL B) _ (S56.at_ (i := 1) rfl) (by omega) (by omega)) fun a60 X60 h60 S60 => ?_
    rw [e12] at h60
    refine sv h60 (ex_convin (by kernel_rfl) Tryz.underlying3 (h60.ev rfl) (wrap_in (by omega))) fun a61 h61 => ?_
    refine ma h61 rfl rfl fun a62 h62 => ?_
    refine st_nil (go_then (st_seq ?_))
    apply dr_flow h62 [false, false, false, false, false, false, false, false, false, false, false, false] _ (by kernel_rfl)
    case h =>
     refine qv h62 (fun X hX => ex_move (h62.ev rfl)) fun a63 h63 => ?_
     refine sq_pure h63 (wn rfl) rfl rfl (fun X => (ex_call (fun _ _ => by kernel_rfl) (h63.evs rfl) rfl)) (fun X hX => logring_within_any _ _ _ _) fun a64 h64 => ?_
     refine qv h64 (fun X hX => ex_move (h64.ev rfl)) fun a65 h65 => ?_
     apply sq_grp h65 66 rfl 9 75
     case ht =>
      intro gc66
      refine sq_val h65 (wanted_yes h65 _ rfl rfl rfl gc66) rfl rfl (fun X hX => (ex_move (h65.ev rfl))) fun a66 h66 => ?_
      refine sq_val h66 (wanted_yes h66 _ rfl rfl rfl gc66) rfl rfl (fun X hX => (ex_nilck (h66.ev rfl))) fun a67 h67 => ?_
      refine sq_val h67 (wanted_yes h67 _ rfl rfl rfl gc66) rfl rfl (fun X hX => (ex_field (off := 1) (j := 1) (by kernel_rfl) (h67.ev rfl) rfl)) fun a68 h68 => ?_
      refine sq_val h68 (wanted_yes h68 _ rfl rfl rfl gc66) rfl rfl (fun X hX => (ex_load (by kernel_rfl) (h68.ev rfl) ((S60.grow hX).cell (i := 0) rfl rfl))) fun a69 h69 => ?_
      refine sq_val h69 (wanted_yes h69 _ rfl rfl rfl gc66) rfl rfl (fun X hX => (ex_move (h69.ev rfl))) fun a70 h70 => ?_
      refine sq_val h70 (wanted_yes h70 _ rfl rfl rfl gc66) rfl rfl (fun X hX => (ex_nilck (h70.ev rfl))) fun a71 h71 => ?_
      refine sq_val h71 (wanted_yes h71 _ rfl rfl rfl gc66) rfl rfl (fun X hX => (ex_field (off := 1) (by kernel_rfl) (h71.ev rfl) rfl)) fun a72 h72 => ?_
      refine sq_val h72 (wanted_yes h72 _ rfl rfl rfl gc66) rfl rfl (fun X hX => (ex_load (by kernel_rfl) (h72.ev rfl) ((box_all ((S60.grow hX).at_ (i := 2) rfl).1.box) 1 _ rfl))) fun a73 h73 => ?_
      refine sq_pure h73 (wanted_yes h73 _ rfl rfl rfl gc66) rfl rfl (fun X => (ex_call (fun _ _ => by kernel_rfl) (h73.evs rfl) rfl)) (fun X hX => logring_within_any _ _ _ _) fun a74 h74 => ?_
      exact sq_nil (h74.mid (m := [(_, _), (_, _), (_, _), (_, _), (_, _), (_, _), (_, _), (_, _)]) rfl)
     case hf =>
      intro gc66
      refine qo h65 rfl rfl rfl gc66 rfl rfl fun a75 h75 => ?_
      refine qo h75 rfl rfl rfl gc66 rfl rfl fun a76 h76 => ?_
      refine qo h76 rfl rfl rfl gc66 rfl rfl fun a77 h77 => ?_
      refine qo h77 rfl rfl rfl gc66 rfl rfl fun a78 h78 => ?_
      refine qo h78 rfl rfl rfl gc66 rfl rfl fun a79 h79 => ?_
      refine qo h79 rfl rfl rfl gc66 rfl rfl fun a80 h80 => ?_
      refine qo h80 rfl rfl rfl gc66 rfl rfl fun a81 h81 => ?_
      refine qo h81 rfl rfl rfl gc66 rfl rfl fun a82 h82 => ?_
      refine qo h82 rfl rfl rfl gc66 rfl rfl fun a83 h83 => ?_
      exact sq_nil ⟨_, h83.mid (m := [(_, _), (_, _), (_, _), (_, _), (_, _), (_, _), (_, _), (_, _)]) rfl⟩
     case h =>
      intro v84 a84 hg75 h84
      refine sq_nil ?_
      refine nd_end fun X85 hX85 hΦ85 => ?_
      have S85 := S60.grow hX85
      refine sv h84 (ex_pick_and (h84.ev rfl) (h84.ev rfl) hg75 (h84.ev rfl)) fun a86 h86 => ?_
      refine st_nil (go_then ?_)
      refine st_if (h86.ev rfl) (fun hc2 => ?_) (fun hc2 => ?_)
      ·
       have hin := hc2
       rw [Bool.and_eq_true, inB_true, inB_true] at hin
       rw [show (inB us 0 448 && inB sq 1 x.top) = true from hc2, Bool.true_and] at hpi
       refine st_seq (st_reg ?_)
       refine mv h86 rfl rfl fun a87 h87 => ?_
       refine mv h87 rfl rfl fun a88 h88 => ?_
       refine mv h88 rfl rfl fun a89 h89 => ?_
       refine sv h89 (as_val (v' := .int .i64 ((64 + us.toNat : Nat) : Int)) (congrArg _ (by omega)) (ex_add (h89.ev rfl) (h89.ev rfl) (by omega))) fun a90 h90 => ?_
       refine sv h90 (as_val (v' := .string (bs cs)) (congrArg _ (by rw [bs_extract, show 64 + us.toNat - 64 = us.toNat by omega, hcs])) (ex_sslice (l := 64) (h := 64 + us.toNat) Tryz.underlying9 (h90.ev rfl) (h90.ev rfl) (h90.ev rfl) (by omega) (by omega))) fun a91 h91 => ?_
       refine sv h91 (ex_nilck (h91.ev rfl)) fun a92 h92 => ?_
       refine vf h92 2 2 rfl rfl rfl fun a93 h93 => ?_
       refine sl_store h93 (wn rfl) ⟨rfl, rfl⟩ (h93.ev rfl) (h93.ev rfl) rfl (by kernel_rfl) S85 (i := 0) rfl rfl rfl fun X94 S94 => ?_
       refine nsr ?_
       refine mv h93 rfl rfl fun a95 h95 => ?_
       refine sv h95 (ex_nilck (h95.ev rfl)) fun a96 h96 => ?_
       refine sv (v := pageV q sq (bs cs)) h96 (ex_loads (by kernel_rfl) (by kernel_rfl) (h96.ev rfl) (S94.cellsAll (i := 0) rfl)) fun a97 h97 => ?_
       refine mv h97 rfl rfl fun a98 h98 => ?_
       refine sl_bel h98 (wn rfl) (ex_call (fun _ _ => by kernel_rfl) (h98.evs rfl) rfl) rfl rfl S94 (block_any _ _ _ _ ⟨by omega, by omega⟩ ⟨by omega, by omega⟩ (by have := hcl (by omega); omega) (by omega) _) fun a99 X99 h99 S99 => ?_
       refine mv h99 rfl rfl fun a100 h100 => ?_
       refine sv h100 (ex_seql (h100.ev rfl) (h100.ev rfl)) fun a101 h101 => ?_
       refine st_nil (go_then ?_)
       refine st_if (h101.ev rfl) (fun hc3 => ?_) (fun hc3 => ?_)
       ·
        have h3 : bs (prL (pgH q cs.length sq (cs ++ zerosL (448 - cs.length))) (((q : Int) / ((x.pg : Int) - 2) + sq) % 65535 + 1)) = bs B := by simpa using hc3
        have h4 : pageL q sq x.pg cs = B := by
         have := congrArg bl h3
         rw [bl_bs, bl_bs] at this
         exact this
        rw [h4, if_pos (beq_self_eq_true _)] at hpi
        refine st_reg ?_
        refine mv h101 rfl rfl fun a102 h102 => ?_
        refine ma h102 rfl rfl fun a103 h103 => ?_
        refine nsr ?_
        refine mv h103 rfl rfl fun a104 h104 => ?_
        refine sv h104 (ex_nilck (h104.ev rfl)) fun a105 h105 => ?_
        refine sv h105 (ex_field (off := 2) (by kernel_rfl) (h105.ev rfl) rfl) fun a106 h106 => ?_
        refine sv h106 (ex_load (by kernel_rfl) (h106.ev rfl) ((box_all (S99.at_ (i := 2) rfl).1.box) 2 _ rfl)) fun a107 h107 => ?_
        refine mv h107 rfl rfl fun a108 h108 => ?_
        refine mv h108 rfl rfl fun a109 h109 => ?_
        refine sl_mapupd (wn rfl) ⟨rfl, rfl⟩ Tryz.underlying108 Tryz.underlying3 (h109.ev rfl) (h109.ev rfl) (h109.ev rfl) (S99.at_ (i := 2) rfl).1.map hnone fun X110 q1 q2 q3 q4 q5 q6 => ?_
        have S110 := rdr_some S99 (i := 1) rfl q1 q2 q3 q4 q5 q6 hpi
        refine nsr ?_
        refine mv h109 rfl rfl fun a111 h111 => ?_
        refine ma h111 rfl rfl fun a112 h112 => ?_
        refine st_nil (go_then (wp_ret ?_))
        refine fin1 h112 rfl rfl ?_
        exact ⟨(some _, ks ++ [(q, some _)]), rfl, ⟨List.mem_append_right _ (List.mem_singleton.2 rfl), fun y hy => List.mem_append_left _ hy⟩, (S110.sub (.cons _ (.cons_cons _ .slnil)))⟩
       ·
        have h4 : (pageL q sq x.pg cs == B) = false := by
         rw [beq_eq_false_iff_ne]
         intro h
         rw [show bs (prL (pgH q cs.length sq (cs ++ zerosL (448 - cs.length))) (((q : Int) / ((x.pg : Int) - 2) + sq) % 65535 + 1)) = bs B from congrArg bs h] at hc3
         simp at hc3
        rw [h4, if_neg (by decide)] at hpi
        refine wp_skip (go_then (st_seq (st_reg ?_)))
        refine mv h101 rfl rfl fun a113 h113 => ?_
        refine sv h113 (ex_nilck (h113.ev rfl)) fun a114 h114 => ?_
        refine sv h114 (ex_field (off := 2) (by kernel_rfl) (h114.ev rfl) rfl) fun a115 h115 => ?_
        refine sv h115 (ex_load (by kernel_rfl) (h115.ev rfl) ((box_all (S99.at_ (i := 2) rfl).1.box) 2 _ rfl)) fun a116 h116 => ?_
        refine mv h116 rfl rfl fun a117 h117 => ?_
        refine mv h117 rfl rfl fun a118 h118 => ?_
        refine sl_mapupd (wn rfl) ⟨rfl, rfl⟩ Tryz.underlying108 Tryz.underlying3 (h118.ev rfl) (h118.ev rfl) (h118.ev rfl) (S99.at_ (i := 2) rfl).1.map hnone fun X119 q1 q2 q3 q4 q5 q6 => ?_
        have S119 := rdr_none S99 (i := 2) rfl q1 q2 q3 q4 q5 q6 hpi
        refine nsr ?_
        refine mv h118 rfl rfl fun a120 h120 => ?_
        refine ma h120 rfl rfl fun a121 h121 => ?_
        refine st_nil (go_then (wp_ret ?_))
        refine fin1 h121 rfl rfl ?_
        exact ⟨(none, ks ++ [(q, none)]), rfl, ⟨List.mem_append_right _ (List.mem_singleton.2 rfl), fun y hy => List.mem_append_left _ hy⟩, (S119.sub (.cons _ (.cons _ (.cons_cons _ .slnil))))⟩
      ·
       have hin : (inB us 0 448 && inB sq 1 x.top) = false := by simpa using hc2
       rw [hin, Bool.false_and, if_neg (by decide)] at hpi
       refine wp_skip (go_then (st_seq (st_reg ?_)))
       refine mv h86 rfl rfl fun a122 h122 => ?_
       refine sv h122 (ex_nilck (h122.ev rfl)) fun a123 h123 => ?_
       refine sv h123 (ex_field (off := 2) (by kernel_rfl) (h123.ev rfl) rfl) fun a124 h124 => ?_
       refine sv h124 (ex_load (by kernel_rfl) (h124.ev rfl) ((box_all (S85.at_ (i := 2) rfl).1.box) 2 _ rfl)) fun a125 h125 => ?_
       refine mv h125 rfl rfl fun a126 h126 => ?_
       refine mv h126 rfl rfl fun a127 h127 => ?_
       refine sl_mapupd (wn rfl) ⟨rfl, rfl⟩ Tryz.underlying108 Tryz.underlying3 (h127.ev rfl) (h127.ev rfl) (h127.ev rfl) (S85.at_ (i := 2) rfl).1.map hnone fun X128 q1 q2 q3 q4 q5 q6 => ?_
       have S128 := rdr_none S85 (i := 2) rfl q1 q2 q3 q4 q5 q6 hpi
       refine nsr ?_
       refine mv h127 rfl rfl fun a129 h129 => ?_
       refine ma h129 rfl rfl fun a130 h130 => ?_
       refine st_nil (go_then (wp_ret ?_))
       refine fin1 h130 rfl rfl ?_
       exact ⟨(none, ks ++ [(q, none)]), rfl, ⟨List.mem_append_right _ (List.mem_singleton.2 rfl), fun y hy => List.mem_append_left _ hy⟩, (S128.sub (.cons _ (.cons _ (.cons_cons _ .slnil))))⟩
    case hB => kernel_rfl
    case hst => rfl
   ·
    have hB : opB B = false := by
     have hO : ¬ opnE B = 0 := by simpa using hc1
     rw [hOe] at hO
     cases h : opB B with
     | false => rfl
     | true => rw [h] at hO; simp at hO
    rw [if_pos hB] at hpi
    refine wp_skip (go_then (st_seq (st_reg ?_)))
    refine mv h46 rfl rfl fun a131 h131 => ?_
    refine sv h131 (ex_nilck (h131.ev rfl)) fun a132 h132 => ?_
    refine sv h132 (ex_field (off := 2) (by kernel_rfl) (h132.ev rfl) rfl) fun a133 h133 => ?_
    refine sv h133 (ex_load (by kernel_rfl) (h133.ev rfl) ((box_all (S37.at_ (i := 0) rfl).1.box) 2 _ rfl)) fun a134 h134 => ?_
    refine mv h134 rfl rfl fun a135 h135 => ?_
    refine mv h135 rfl rfl fun a136 h136 => ?_
    refine sl_mapupd (wn rfl) ⟨rfl, rfl⟩ Tryz.underlying108 Tryz.underlying3 (h136.ev rfl) (h136.ev rfl) (h136.ev rfl) (S37.at_ (i := 0) rfl).1.map hnone fun X137 q1 q2 q3 q4 q5 q6 => ?_
    have S137 := rdr_none S37 (i := 0) rfl q1 q2 q3 q4 q5 q6 hpi
    refine nsr ?_
    refine mv h136 rfl rfl fun a138 h138 => ?_
    refine ma h138 rfl rfl fun a139 h139 => ?_
    refine st_nil (go_then (wp_ret ?_))
    refine fin1 h139 rfl rfl ?_
    exact ⟨(none, ks ++ [(q, none)]), rfl, ⟨List.mem_append_right _ (List.mem_singleton.2 rfl), fun y hy => List.mem_append_left _ hy⟩, (S137.sub (.cons_cons _ .slnil))⟩
  case hB => kernel_rfl
  case hst => rfl
end Go.Proofs.YtmlilplbdpjfcaaGreatDoor
