/-
  A walk by steps: rows that grow and are written, bytes.
  A walk by steps: structs compared, more of bytes, bits.
  SPL, part 6: append of zeros that are made, clear, copies between bytes. No program in sight.
-/
import Derived.Test.YtmlilplbdpjfcaaGreatDoorSplA
import Derived.Test.YtmlilplbdpjfcaaGreatDoorKitA
import Derived.Lib.ConvBytes
import Derived.Laws.MakeOwn
import Derived.Laws.IdiomStrings
import Derived.Laws.StructEq
import Derived.Lib.AppendZerosOnto
import Derived.Lib.AppendStr
namespace Go.Proofs.YtmlilplbdpjfcaaGreatDoor
set_option linter.unusedVariables false
set_option linter.unusedSimpArgs false
open Go.RowKit Go.Sort
section
variable {M : List Nat} {w X X' : World} {L : List Ent}
theorem St.toRow {i b n sz : Nat} {T : TypeId} {cs : Array Value} (h : St M w X L) (hi : L[i]? = some (.box b cs T)) (hn : cs.toList.length = n * sz) (hm : n ≤ maxLen) : St M w X (L.set i (.row (.slice (some ⟨b, 0, none⟩) n n) n T sz cs.toList)) :=
 h.turn hi rfl rfl rfl (Nat.le_refl _) (fun _ _ _ => rfl) ⟨hn, .inr ⟨b, n, cs, rfl, Nat.zero_le _, h.at_ hi, Nat.le_refl _, hm, by simpa using hn, List.take_of_length_le (by omega)⟩⟩
  (fun k hk => by
   have hk' : some b = some k := hk
   injection hk' with hk'
   subst hk'
   exact ⟨.inl rfl, Box.lt (h.at_ hi)⟩)
theorem St.nilRow (h : St M w X L) (T : TypeId) (sz : Nat) : St M w X (.row (.slice none 0 0) 0 T sz [] :: L) :=
 h.add (Below.refl _ _) (World.ownsRow_nil _ _ _ _) (fun b hb => by cases hb)
theorem St.initByt {g : Nat} {l : List UInt8} (h : BytB w g l) : St [g] w w [.byt g l] :=
 ⟨rfl, rfl, rfl, Nat.le_refl _, fun _ _ _ => rfl, fun e he => by rw [List.mem_singleton.1 he]; exact h, fun e he b hb => by
  rw [List.mem_singleton.1 he] at hb
  have e1 : b = g := hb
  subst e1
  obtain ⟨cs, T, fr, h1, _⟩ := h
  exact ⟨.inr (by simp), (Array.getElem?_eq_some_iff.1 h1).1⟩, .cons (fun _ h => by cases h) .nil⟩
theorem St.called {i g : Nat} {e e' : Ent} (h : St M w X L) (hi : L[i]? = some e) (hU : St [g] X X' [e']) (hg : e.dom g) : St M w X' (L.set i e') :=
 h.turn hi hU.os hU.tape hU.output hU.size (fun b hb hne => hU.block b hb (fun hm => hne (by rw [List.mem_singleton.1 hm]; exact hg))) (hU.ok e' (List.mem_singleton.2 rfl))
  (fun b hb => by
   obtain ⟨h1, h2⟩ := hU.new e' (List.mem_singleton.2 rfl) b hb
   refine ⟨?_, h2⟩
   rcases h1 with h1 | h1
   · exact .inr h1
   · exact .inl (by rw [List.mem_singleton.1 h1]; exact hg))
theorem St.rowEq {i n n' sz : Nat} {T : TypeId} {v v' : Value} {xs xs' : List Value} (h : St M w X L) (hi : L[i]? = some (.row v n T sz xs)) (hv : v'.ownBlock = v.ownBlock) (ho : X.ownsRow 0 T sz v' n' xs') : St M w X (L.set i (.row v' n' T sz xs')) :=
 h.turn hi rfl rfl rfl (Nat.le_refl _) (fun _ _ _ => rfl) ho (fun k hk => ⟨.inl (by show v.ownBlock = some k; rw [← hv]; exact hk), (ho.lt k hk).2⟩)
theorem St.boxRd {i b : Nat} {cs : Array Value} {T : TypeId} (h : St M w X L) (hi : L[i]? = some (.box b cs T)) : Rd X X.heap.size (some ⟨b, 0, none⟩) cs.toList := fun j u hj =>
 ⟨b, 0, rfl, Box.lt (h.at_ hi), h.cell hi (by rw [Nat.zero_add]; exact hj)⟩
end
theorem storeCells_fr {P : Program} (g : Nat) (t : TypeId) (fr : Nat × Nat) : ∀ (vs : List Value) (j i : Nat) (cur : Array Value) (w : World), w.heap[g]? = some (.cells cur t fr) → j + i + vs.length ≤ cur.size → (∀ k, j + i ≤ k → k < j + i + vs.length → ¬ (fr.1 ≤ k ∧ k < fr.2)) → (∀ v ∈ vs, v.oneCell' = true) →
 (storeCells ⟨g, j, none⟩ vs i).run P w = .ok () (w.setRow g (cur.toList.take (j + i) ++ vs ++ cur.toList.drop (j + i + vs.length)).toArray)
 | [], j, i, cur, w, hg, hl, _, _ => by
  have e : (cur.toList.take (j + i) ++ [] ++ cur.toList.drop (j + i + ([] : List Value).length)) = cur.toList := by simp
  rw [e]
  have hv : w.heap[g]? = _ := hg
  simp only [storeCells]
  show Result.ok () w = _
  congr 1
  unfold World.setRow
  cases w with
  | mk heap tape drawn os output =>
   congr 1
   apply Array.ext
   · simp
   · intro k h1 h2
     simp only [Array.getElem_modify]
     split
     · rename_i hk; subst hk
       rw [Array.getElem?_eq_getElem h1] at hv
       injection hv with hv
       simp [hv]
     · rfl
 | v :: rest, j, i, cur, w, hg, hl, hfr, h1 => by
  have hi : j + i < cur.size := by simp at hl; omega
  have hcell : w.cell? ⟨g, j + i, none⟩ = some cur[j + i] := by simp [World.cell?, hg, hi]
  have hfro : w.frozen? ⟨g, j + i, none⟩ = false := by
   have := hfr (j + i) (Nat.le_refl _) (by simp)
   unfold World.frozen?
   rw [show w.heap[g]? = _ from hg]
   simp only [Bool.and_eq_false_iff, decide_eq_false_iff_not]
   omega
  have hst : (store ((⟨g, j, none⟩ : Addr).add i) v).run P w = .ok () (w.setRow g (cur.setIfInBounds (j + i) v)) := by
   rw [add_none, run_store P w _ v _ (h1 v (by simp)), hcell]
   simp [hfro, setCell_eq_setRow w g (j + i) cur t fr v hg]
  have ih := storeCells_fr (P := P) g t fr rest j (i + 1) (cur.setIfInBounds (j + i) v) (w.setRow g (cur.setIfInBounds (j + i) v)) (setRow_heap w g cur _ t _ hg) (by simp at hl ⊢; omega) (fun k hk1 hk2 => hfr k (by omega) (by simp only [List.length_cons]; omega)) (fun x hx => h1 x (by simp [hx]))
  simp only [storeCells, Sem.run_bind, hst, Result.andThen_ok, ih, setRow_setRow]
  congr 3
  simp only [Array.toList_setIfInBounds, List.length_cons]
  rw [show j + (i + 1) = j + i + 1 by omega, List.take_succ_eq_append_getElem (by simpa using hi), List.take_set_of_le (Nat.le_refl _), List.drop_set_of_lt (by omega)]
  simp [show j + i + 1 + rest.length = j + i + (rest.length + 1) by omega]
theorem setRow_grw {X : World} {b : Nat} {cs cs' : Array Value} {T : TypeId} {fr : Nat × Nat} (hb : X.heap[b]? = some (.cells cs T fr)) (hs : cs'.size = cs.size) : Grw (fun k _ => k = b) X (X.setRow b cs') :=
 ⟨rfl, rfl, rfl, by simp [World.setRow], fun k hk hne => setRow_other X b k _ hne, fun k cs1 T' fr' hk => by
  by_cases e : k = b
  · rw [e, hb] at hk
    injection hk with hk
    injection hk with e1 e2 e3
    subst e1 e2 e3
    exact ⟨_, hs, by rw [e]; exact setRow_heap X b _ _ _ _ hb⟩
  · exact ⟨cs1, rfl, (setRow_other X b k _ e).trans hk⟩⟩
section
variable {P : Program} {ops : Array Oper} {rest : List Oper} {o : Oper} {a : Act} {Q : Exit → Act → World → Prop} {X : World} {N d : Nat} {l : List (Nat × Value)} {M : List Nat} {w : World} {E : List Ent}
theorem info_all {i : Option TypeInfo} {z : Value} {size bytes : Nat} (h : i.map (fun i => (i.zero, i.size, i.bytes)) = some (some z, size, bytes)) : ∃ q, i = some q ∧ q.zero = some z ∧ q.size = size ∧ q.bytes = bytes := by
 cases i with
 | none => cases h
 | some q => injection h with h; injection h with h1 h2; injection h2 with h2 h3; exact ⟨q, rfl, h1, h2, h3⟩
theorem sl_append {s x : Operand} {t e : TypeId} {z v : Value} {n m c i sz bytes : Nat} {A : Option Addr} {xs news : List Value} (ha : Has a N l) (hw : Region.wanted o (yielded ops a.tmps) = true) (ho : o.op = .call { callee := .builtin .append, args := #[s, x], argTypes := #[t, t] } ∧ o.dst = some d) (hN : Nat.blt d N = true)
 (ht : P.underlying t = some (.slice e)) (hinfo : (P.info? e).map (fun i => (i.zero, i.size, i.bytes)) = some (some z, sz, bytes)) (hz : z.cells.size = sz) (hsz : Nat.blt 0 sz = true) (hs : a.eval s = v) (hx : a.eval x = .slice A m c) (hS : St M w X E) (hi : E[i]? = some (.row v n e sz xs))
 (hr : Rd X X.heap.size A news) (hl : news.length = m * sz) (h1 : ∀ u ∈ news, u.oneCell' = true) (hb : n + m ≤ 1000000 ∧ bytes ≤ 1000000)
 (k : ∀ A' c' a' X', Has a' N ((d, .slice A' (n + m) c') :: l) → St M w X' (E.set i (.row (.slice A' (n + m) c') (n + m) e sz (xs ++ news))) → wpList P ops Q rest a' X') : wpList P ops Q (o :: rest) a X := by
 obtain ⟨q, hq, hz1, hz2, hz3⟩ := info_all hinfo
 have hown : X.ownsRow 0 e sz v n xs := hS.at_ hi
 have hmul : (n + m) * bytes ≤ 1000000 * 1000000 := Nat.mul_le_mul hb.1 hb.2
 obtain ⟨v', w', hrun, h2, h3, h5⟩ := run_append_rd (P := P) X 0 t o.type e q z sz bytes ht hq hz1 hz2 hz3 hz (Nat.lt_of_lt_of_le (Nat.lt_succ_self 0) (Nat.le_of_ble_eq_true hsz)) v n xs hown X.heap.size A m c news hl hr h1 (by unfold maxLen; omega) (by omega) (Nat.zero_le _)
 obtain ⟨A', c', rfl, _⟩ := ownsRow_form h2
 refine sl_val (X' := w') (v := .slice A' (n + m) c') ha hw ?_ ho.2 hN (fun a' ha' => k A' c' a' w' ha' (hS.grown hi h2 h3 ?_))
 · unfold execOp
   simp only [ho.1, resolve, invoke, builtin, Sem.run_bind, Sem.run_pure, Result.andThen_ok, List.map_toArray, List.map_cons, List.map_nil, hs, hx, hrun]
 · rcases h5 with h5 | h5
   · exact .inl h5
   · exact .inr fun g hg => by rw [h5] at hg; injection hg with hg; omega
theorem sl_rowset {ty : TypeId} {x y : Operand} {g j i n c sz : Nat} {v : Value} {vs : List Value} {T : TypeId} {xs : List Value} (ha : Has a N l) (hw : Region.wanted o (yielded ops a.tmps) = true) (ho : o.op = .store ty x y ∧ o.dst = none) (hx : a.eval x = .pointer (some ⟨g, j, none⟩)) (hy : a.eval y = v) (hvs : v.cells.toList = vs)
 (hs : (P.info? ty).map (·.size) = some vs.length) (hS : St M w X E) (hi : E[i]? = some (.row (.slice (some ⟨g, 0, none⟩) n c) n T sz xs)) (h1 : vs.all (·.oneCell') = true) (hj : j + vs.length ≤ n * sz)
 (k : ∀ X', St M w X' (E.set i (.row (.slice (some ⟨g, 0, none⟩) n c) n T sz (xs.take j ++ vs ++ xs.drop (j + vs.length)))) → wpList P ops Q rest a X') : wpList P ops Q (o :: rest) a X := by
 have hown : X.ownsRow 0 T sz (.slice (some ⟨g, 0, none⟩) n c) n xs := hS.at_ hi
 obtain ⟨hxl, hrow⟩ := hown
 rcases hrow with ⟨h0, _⟩ | ⟨g', cap, cur, e1, _, hg, hcap, hm, hcs, htk⟩
 · cases h0
 injection e1 with e1 e2 e3
 injection e1 with e1
 injection e1 with e1 _
 subst e1 e3
 have hle : j + vs.length ≤ cur.size := by rw [hcs]; exact Nat.le_trans hj (Nat.mul_le_mul_right _ hcap)
 have hst := storeCells_mid (P := P) g T vs j 0 cur X hg (by simpa using hle) (fun u hu => List.all_eq_true.1 h1 u hu)
 simp only [Nat.add_zero] at hst
 have hnsz : n * sz ≤ cur.size := by rw [hcs]; exact Nat.mul_le_mul_right _ hcap
 refine sl_unit (X' := X.setRow g (cur.toList.take j ++ vs ++ cur.toList.drop (j + vs.length)).toArray) hw ?_ ho.2 (k _ ?_)
 · cases hq : P.info? ty with
   | none => rw [hq] at hs; cases hs
   | some q =>
    rw [hq] at hs
    have hsz : q.size = vs.length := by simpa using hs
    have hcsz : v.cells.size = vs.length := by rw [← hvs]; simp
    unfold execOp
    simp only [ho.1, hx, hy, Instr.storeAt, Instr.sureAddr, Sem.run_bind, Sem.run_pure, Result.andThen_ok]
    simp [storeVar, sizeOf, typeInfo, hq, hsz, hcsz, hvs, hst]
 · have hG := setRow_grw (cs' := (cur.toList.take j ++ vs ++ cur.toList.drop (j + vs.length)).toArray) hg (by simp; omega)
   refine hS.turn hi hG.os hG.tape hG.output hG.size (fun b hb hne => hG.block b hb (fun e => hne (by rw [e]; rfl))) ⟨by simp only [List.length_append, List.length_take, List.length_drop]; omega, .inr ⟨g, c, _, rfl, Nat.zero_le _, setRow_heap X g _ _ _ _ hg, hcap, hm, by simp; omega, ?_⟩⟩ (fun b hb => ⟨.inl hb, ?_⟩)
   · show (cur.toList.take j ++ vs ++ cur.toList.drop (j + vs.length)).take (n * sz) = _
     rw [← htk, List.take_append, List.take_append, List.take_of_length_le (l := vs) (by simp; omega), List.take_take, List.take_take, List.take_drop, List.drop_take]
     have hl1 : (cur.toList.take j ++ vs).length = j + vs.length := by simp; omega
     rw [hl1, Nat.min_eq_right (by omega), Nat.min_eq_left (by omega), show j + vs.length + (n * sz - (j + vs.length)) = n * sz by omega, List.drop_take]
   · have hb' : some g = some b := hb
     injection hb' with hb'
     subst hb'
     exact (Array.getElem?_eq_some_iff.1 (setRow_heap X g _ (cur.toList.take j ++ vs ++ cur.toList.drop (j + vs.length)).toArray _ _ hg)).1
theorem ex_bslice2 {ρ : Operand → Value} {t e : TypeId} {n sz : Nat} {parts : Array (Nat × Operand)} {zc : List Value} {us : List Value} {ixs : List Nat} {cs : List Value} (ho : o.op = .buildSlice t n parts)
 (ht : P.underlying t = some (.slice e)) (hz : ((P.info? e).bind (·.zero)).map (·.cells.toList) = some zc) (hs : (P.info? e).map (·.size) = some sz) (hzc : zc.length = sz) (hsz : Nat.blt 0 sz = true) (hn : Nat.blt (n * sz) 16777216 = true) (hv : parts.toList.map (fun p => ρ p.2) = us) (hi : parts.toList.map (·.1) = ixs)
 (hf : fillS ((List.range n).map fun i => (i * sz, sz)) (List.replicate n zc).flatten (ixs.zip us) = some cs) (hin : ixs.all (fun i => Nat.blt i n) = true) :
 (execOp ρ o).run P X = .ok (.value (.slice (some ⟨X.heap.size, 0, none⟩) n n)) (X.alloc (.cells cs.toArray e)) := by
 have hps : parts.toList.map (fun x => (x.1, ρ x.2)) = ixs.zip us := by
  have hz : ∀ l : List (Nat × Operand), l.map (fun x => (x.1, ρ x.2)) = (l.map (·.1)).zip (l.map fun p => ρ p.2) := by
   intro l
   induction l with
   | nil => rfl
   | cons p l ih => simp [ih]
  rw [← hv, ← hi, ← hz parts.toList]
 have hsz' : 0 < sz := Nat.lt_of_lt_of_le (Nat.lt_succ_self 0) (Nat.le_of_ble_eq_true hsz)
 have hn' : n * sz < 16777216 := Nat.le_of_ble_eq_true hn
 cases hq : P.info? e with
 | none => rw [hq] at hs; cases hs
 | some q =>
  rw [hq] at hs hz
  have hqs : q.size = sz := by simpa using hs
  cases hqz : q.zero with
  | none => rw [Option.bind_some, hqz] at hz; cases hz
  | some z =>
   rw [Option.bind_some, hqz] at hz
   have hzz : z.cells.toList = zc := by simpa using hz
   have hzs : z.cells.size = sz := by rw [← hzc, ← hzz]; simp
   have hcells : (Array.range (n * sz)).map (z.cells[· % z.cells.size]!) = (List.replicate n zc).flatten.toArray := by
    apply Array.ext'
    rw [Array.toList_map, Array.toList_range]
    apply List.ext_getElem
    · simp [hzc]
    · intro k h1 h2
      simp only [List.length_map, List.length_range] at h1
      rw [List.getElem_map, List.getElem_range, hzs]
      have hmod : k % sz < z.cells.size := by rw [hzs]; exact Nat.mod_lt _ hsz'
      have hget : ∀ (m k : Nat) (h : k < ((List.replicate m zc).flatten).length), ((List.replicate m zc).flatten)[k]'h = zc[k % sz]'(by rw [hzc]; exact Nat.mod_lt _ hsz') := by
       intro m
       induction m with
       | zero => intro k h; simp at h
       | succ m ih =>
        intro k h
        simp only [List.replicate_succ, List.flatten_cons]
        by_cases hk : k < zc.length
        · rw [List.getElem_append_left hk]
          congr 1
          rw [Nat.mod_eq_of_lt (by omega)]
        · rw [List.getElem_append_right (by omega), ih]
          congr 1
          rw [hzc, ← Nat.mod_eq_sub_mod (by omega)]
      simp only [List.toList_toArray]
      rw [hget]
      rw [getElem!_pos z.cells (k % sz) hmod]
      simp [← hzz]
   have hfs := fill_S _ _ _ _ hf
   have hfill : ∀ (ps : List (Nat × Value)) (cells : Array Value), (∀ p ∈ ps, p.1 < n) → Instr.fill (((List.range n).map fun i => (i * sz, sz)).toArray[·]?) cells ps = Instr.fill (fun i => some (i * sz, sz)) cells ps := by
    intro ps
    induction ps with
    | nil => intro cells _; rfl
    | cons p ps ih =>
     intro cells hp
     obtain ⟨i, v⟩ := p
     unfold Instr.fill
     have e1 : ((List.range n).map fun i => (i * sz, sz)).toArray[i]? = some (i * sz, sz) := by
      have := hp (i, v) (by simp)
      simp at this
      simp [this]
     rw [e1]
     simp only
     split
     · rfl
     · exact ih _ (fun q hq => hp q (by simp [hq]))
   rw [hfill _ _ (fun p hp => by
    have := List.all_eq_true.1 hin p.1 (by
     have := (List.of_mem_zip (a := p.1) (b := p.2) (by simpa using hp)).1
     exact this)
    exact Nat.le_of_ble_eq_true this)] at hfs
   unfold execOp
   simp only [ho]
   have h24 : ¬ (16777216 < n * sz) := by omega
   by_cases hn0 : n = 0
   · subst hn0
     have hr0 : Array.range 0 = #[] := rfl
     simp only [Nat.zero_mul, List.replicate_zero, List.flatten_nil] at hfs ⊢
     simp [hr0, Instr.buildSlice, run_underlying ht, sizeOf, typeInfo, hq, hqs, hps, hfs, newRow]
   · have hne : n * sz ≠ 0 := by have := Nat.mul_pos (Nat.pos_of_ne_zero hn0) hsz'; omega
     simp [Instr.buildSlice, run_underlying ht, sizeOf, typeInfo, hq, hqs, zeroValue, hqz, hps, hcells, hfs, newRow, h24, hne]
theorem sl_bslice {t e : TypeId} {n sz : Nat} {parts : Array (Nat × Operand)} {zc : List Value} {us : List Value} {ixs : List Nat} {cs : List Value} (ha : Has a N l) (hw : Region.wanted o (yielded ops a.tmps) = true) (ho : o.op = .buildSlice t n parts ∧ o.dst = some d) (hN : Nat.blt d N = true)
 (ht : P.underlying t = some (.slice e)) (hz : ((P.info? e).bind (·.zero)).map (·.cells.toList) = some zc) (hs : (P.info? e).map (·.size) = some sz) (hzc : zc.length = sz) (hsz : Nat.blt 0 sz = true) (hn : Nat.blt (n * sz) 16777216 = true) (hv : parts.toList.map (fun p => a.eval p.2) = us) (hi : parts.toList.map (·.1) = ixs)
 (hf : fillS ((List.range n).map fun i => (i * sz, sz)) (List.replicate n zc).flatten (ixs.zip us) = some cs) (hin : ixs.all (fun i => Nat.blt i n) = true) (hS : St M w X E)
 (k : ∀ b a' X', w.heap.size ≤ b → Has a' N ((d, .slice (some ⟨b, 0, none⟩) n n) :: l) → St M w X' (.box b cs.toArray e :: E) → wpList P ops Q rest a' X') : wpList P ops Q (o :: rest) a X :=
 sl_new (f := fun b => .slice (some ⟨b, 0, none⟩) n n) (cs := cs.toArray) (T := e) ha hw (ex_bslice2 ho.1 ht hz hs hzc hsz hn hv hi hf hin) ho.2 hN hS k
end
section
variable {P : Program} {ρ : Operand → Value} {X : World} {d : Option Tmp} {ty : TypeId} {ps : String} {af : Array Edge} {g : Option (Nat × Bool)}
theorem ex_slice {x : Operand} {t e : TypeId} {b o' n c l h sz j : Nat} {lo hi : Option Operand} (ht : P.underlying t = some (.slice e)) (hs : (P.info? e).map (·.size) = some sz) (hx : ρ x = .slice (some ⟨b, o', none⟩) n c) (hlo : match lo with | some y => ρ y = .int .i64 (l : Nat) | none => l = 0) (hhi : match hi with | some y => ρ y = .int .i64 (h : Nat) | none => h = n) (h1 : l ≤ h) (h2 : h ≤ c) (hc : c ≠ l ∨ l = 0) (hj : o' + l * sz = j) :
 (execOp ρ ⟨d, .slice t x lo hi none, ty, ps, af, g⟩).run P X = .ok (.value (.slice (some ⟨b, j, none⟩) (h - l) (c - l))) X := by
 subst hj
 have hadd : (if c = l then (some ⟨b, o', none⟩ : Option Addr) else some ((⟨b, o', none⟩ : Addr).add (l * sz))) = some ⟨b, o' + l * sz, none⟩ := by
  split
  · rcases hc with hc | hc
    · contradiction
    · subst hc; simp
  · rw [add_none]
 cases hq : P.info? e with
 | none => rw [hq] at hs; cases hs
 | some q =>
  rw [hq] at hs
  have hqs : q.size = sz := by simpa using hs
  cases lo <;> cases hi <;> simp only at hlo hhi
  · subst hlo hhi; simp [execOp, hx, Instr.sliceAt, Instr.slice, run_underlying ht, Instr.sliceBounds, sizeOf, typeInfo, hq, hqs]; simpa using hadd
  · subst hlo; simp [execOp, hx, hhi, Instr.sliceAt, Instr.slice, run_underlying ht, Instr.sliceBounds, Instr.sliceBound, asIntOf, h2, sizeOf, typeInfo, hq, hqs]; simpa using hadd
  · subst hhi; simp [execOp, hx, hlo, Instr.sliceAt, Instr.slice, run_underlying ht, Instr.sliceBounds, Instr.sliceBound, asIntOf, h1, sizeOf, typeInfo, hq, hqs]; simpa using hadd
  · simp [execOp, hx, hlo, hhi, Instr.sliceAt, Instr.slice, run_underlying ht, Instr.sliceBounds, Instr.sliceBound, asIntOf, h1, h2, sizeOf, typeInfo, hq, hqs]; simpa using hadd
end
theorem byt_cell {X : World} {b j : Nat} {l : List UInt8} (h : BytB X b l) (hj : j < l.length) : X.cell? ⟨b, j, none⟩ = some (byteV (l.getD j 0)) := by
 obtain ⟨cs, T, fr, h1, h2, _⟩ := h
 have hg : (cs.toList.take l.length)[j]? = some (byteV (l.getD j 0)) := by
  rw [h2, List.getElem?_map, List.getD_eq_getElem?_getD, List.getElem?_eq_getElem hj]; rfl
 rw [List.getElem?_take, if_pos hj] at hg
 unfold World.cell?
 rw [h1]
 simpa using hg
theorem byt_size {X : World} {b : Nat} {l : List UInt8} (h : BytB X b l) : ∃ cs T fr, X.heap[b]? = some (.cells cs T fr) ∧ cs.toList.take l.length = l.map byteV ∧ (∀ j, j < cs.size → ¬ (fr.1 ≤ j ∧ j < fr.2)) ∧ l.length ≤ cs.size := by
 obtain ⟨cs, T, fr, h1, h2, h3⟩ := h
 have := congrArg List.length h2
 rw [List.length_take, List.length_map] at this
 exact ⟨cs, T, fr, h1, h2, h3, by simp at this; omega⟩
theorem byteV_one (l : List UInt8) : ∀ v ∈ l.map byteV, v.oneCell' = true := fun v hv => by
 obtain ⟨b, _, rfl⟩ := List.mem_map.1 hv; rfl
theorem byt_put {P : Program} {X : World} {b j : Nat} {l us : List UInt8} (h : BytB X b l) (hj : j + us.length ≤ l.length) :
 ∃ X', (storeCells ⟨b, j, none⟩ (us.map byteV) 0).run P X = .ok () X' ∧ Grw (fun k _ => k = b) X X' ∧ BytB X' b (l.take j ++ us ++ l.drop (j + us.length)) := by
 obtain ⟨cs, T, fr, h1, h2, h3, h4⟩ := byt_size h
 have hst := storeCells_fr (P := P) b T fr (us.map byteV) j 0 cs X h1 (by simp; omega) (fun k hk1 hk2 => h3 k (by simp at hk2; omega)) (byteV_one us)
 refine ⟨_, hst, setRow_grw h1 (by simp; omega), _, T, fr, setRow_heap X b _ _ _ _ h1, ?_, fun k hk => h3 k (by simp at hk; omega)⟩
 have hlen : (l.take j ++ us ++ l.drop (j + us.length)).length = l.length := by simp only [List.length_append, List.length_take, List.length_drop]; omega
 rw [hlen, List.map_append, List.map_append, List.map_take, List.map_drop, ← h2]
 simp only [Nat.add_zero, List.toList_toArray, List.length_map]
 rw [List.take_append, List.take_append, List.take_of_length_le (l := us.map byteV) (by simp; omega), List.take_take, List.take_take, List.take_drop, List.drop_take]
 have hl1 : (cs.toList.take j ++ us.map byteV).length = j + us.length := by simp; omega
 rw [hl1, Nat.min_eq_right (by omega), Nat.min_eq_left (by omega), show j + us.length + (l.length - (j + us.length)) = l.length by omega, List.drop_take]
section
variable {P : Program} {ops : Array Oper} {rest : List Oper} {o : Oper} {a : Act} {Q : Exit → Act → World → Prop} {X : World} {N d : Nat} {l : List (Nat × Value)} {M : List Nat} {w : World} {E : List Ent}
theorem St.byted {X' : World} {i b : Nat} {l1 l2 : List UInt8} (h : St M w X E) (hi : E[i]? = some (.byt b l1)) (hX : Grw (fun k _ => k = b) X X') (hb : BytB X' b l2) : St M w X' (E.set i (.byt b l2)) :=
 h.turn hi hX.os hX.tape hX.output hX.size (fun k hk hne => hX.block k hk hne) hb (fun k hk => ⟨.inl hk, by
  cases hk
  obtain ⟨cs, T, fr, h1, _⟩ := hb
  exact (Array.getElem?_eq_some_iff.1 h1).1⟩)
theorem sl_bytes {x : Operand} {src dst e : TypeId} {u : TypeDesc} {s : ByteArray} (ha : Has a N l) (hw : Region.wanted o (yielded ops a.tmps) = true) (ho : o.op = .convert src dst x ∧ o.dst = some d) (hN : Nat.blt d N = true) (hs : P.underlying src = some u) (hd : P.underlying dst = some (.slice e)) (he : P.underlying e = some (.int .u8))
 (hx : a.eval x = .string s) (hS : St M w X E) (k : ∀ b c a' X', w.heap.size ≤ b → s.size ≤ c → Has a' N ((d, .slice (some ⟨b, 0, none⟩) s.size c) :: l) → St M w X' (.byt b (bl s) :: E) → wpList P ops Q rest a' X') : wpList P ops Q (o :: rest) a X := by
 have hrun := Lib.run_convert_string_bytes (P := P) X src dst e s hs hd he
 have hb : Below X.heap.size X (Lib.bytesWorld X e s) := ⟨rfl, rfl, rfl, by rw [Lib.bytesWorld_size]; omega, fun j hj => Lib.bytesWorld_at_old X e s j hj⟩
 refine sl_val (X' := Lib.bytesWorld X e s) (v := .slice (some ⟨X.heap.size, 0, none⟩) s.size (grownCap X s.size 0 e)) ha hw ?_ ho.2 hN (fun a' ha' => k X.heap.size _ a' _ hS.size ?_ ha' (hS.add hb (e := .byt X.heap.size (bl s)) ?_ ?_))
 · unfold execOp
   simp only [ho.1, hx, Sem.run_bind, hrun, Result.andThen_ok, Sem.run_pure]
 · unfold grownCap Question.cut; simp
 · refine ⟨_, _, _, Lib.bytesWorld_at_new X e s, ?_, fun j hj => by simp only; omega⟩
   unfold Lib.bytesCells
   rw [Array.toList_append, List.take_append_of_le_length (by simp [bl_length]), List.take_of_length_le (by simp [bl_length])]
   simp [byteV]
 · intro b hb'
   cases hb'
   exact ⟨Nat.le_refl _, by rw [Lib.bytesWorld_size]; omega⟩
theorem sl_make {t e : TypeId} {x y : Operand} {n : Nat} (ha : Has a N l) (hw : Region.wanted o (yielded ops a.tmps) = true) (ho : o.op = .makeSlice t x y ∧ o.dst = some d) (hN : Nat.blt d N = true) (ht : P.underlying t = some (.slice e)) (hinfo : (P.info? e).map (fun i => (i.zero, i.size, i.bytes)) = some (some (.int .u8 0), 1, 1))
 (hx : a.eval x = .int .i64 n) (hy : a.eval y = .int .i64 n) (hn : n ≤ 16777216) (hS : St M w X E) (k : ∀ b a' X', w.heap.size ≤ b → Has a' N ((d, .slice (some ⟨b, 0, none⟩) n n) :: l) → St M w X' (.byt b (zerosL n) :: E) → wpList P ops Q rest a' X') : wpList P ops Q (o :: rest) a X := by
 obtain ⟨q, hq, hz1, hz2, hz3⟩ := info_all hinfo
 have hrun := run_makeSlice (P := P) (w := X) t e q (.int .u8 0) ht hq hz1 .i64 .i64 (n : Int) (n : Int) (by omega) (Int.le_refl _) (by rw [hz2]; simpa using hn) (by rw [hz3]; omega) (by omega)
 simp only [Int.toNat_natCast, hz2, Nat.mul_one] at hrun
 refine sl_val (X' := X.alloc (.cells (madeCells (Value.int .u8 0).cells n) e)) (v := .slice (some ⟨X.heap.size, 0, none⟩) n n) ha hw ?_ ho.2 hN (fun a' ha' => k X.heap.size a' _ hS.size ha' (hS.add (bel_alloc (Below.refl _ _) _) (e := .byt X.heap.size (zerosL n)) ?_ ?_))
 · unfold execOp
   simp only [ho.1, hx, hy, Sem.run_bind, hrun, Result.andThen_ok, Sem.run_pure]
 · refine ⟨_, e, (0, 0), heap_alloc_new X _, ?_, fun j hj => by simp⟩
   rw [List.take_of_length_le (by simp [madeCells, zerosL])]
   apply List.ext_getElem
   · simp [madeCells, zerosL]
   · intro k h1 h2
     simp [madeCells, zerosL, byteV, Value.cells]
     rw [Nat.mod_one]; rfl
 · intro b hb'
   cases hb'
   simp
theorem sl_copys {x y : Operand} {t u e : TypeId} {b o' n c i : Nat} {s : ByteArray} {l1 : List UInt8} (ha : Has a N l) (hw : Region.wanted o (yielded ops a.tmps) = true) (ho : o.op = .call ⟨.builtin .copy, #[x, y], #[t, u]⟩) (ht : P.underlying t = some (.slice e)) (hinfo : (P.info? e).map (·.size) = some 1)
 (hx : a.eval x = .slice (some ⟨b, o', none⟩) n c) (hy : a.eval y = .string s) (hS : St M w X E) (hi : E[i]? = some (.byt b l1)) (hn : o' + n ≤ l1.length)
 (k : ∀ a' X', (match o.dst with | some d => Nat.blt d N = true → Has a' N ((d, .int .i64 (min s.size n : Nat)) :: l) | none => Has a' N l) → St M w X' (E.set i (.byt b (l1.take o' ++ (bl s).take n ++ l1.drop (o' + min s.size n)))) → wpList P ops Q rest a' X') : wpList P ops Q (o :: rest) a X := by
 have hlen : ((bl s).take n).length = min s.size n := by rw [List.length_take, bl_length]; omega
 obtain ⟨X', h1, h2, h3⟩ := byt_put (P := P) (us := (bl s).take n) (j := o') (hS.at_ hi) (by rw [hlen]; omega)
 rw [hlen] at h3
 have hrun : (execOp a.eval o).run P X = .ok (.value (.int .i64 (min s.size n : Nat))) X' := by
  cases hq : P.info? e with
  | none => rw [hq] at hinfo; cases hinfo
  | some q =>
   rw [hq] at hinfo
   have hqs : q.size = 1 := by simpa using hinfo
   have hcells : ((s.extract 0 (Nat.min s.size n)).data.map fun b => Value.int .u8 b.toNat).toList = ((bl s).take n).map byteV := by
    rw [Array.toList_map]
    have e1 : (s.extract 0 (Nat.min s.size n)).data.toList = (bl s).take n := by
     have := bl_extract s 0 (Nat.min s.size n)
     rw [List.drop_zero] at this
     rw [show (s.extract 0 (Nat.min s.size n)).data.toList = bl (s.extract 0 (Nat.min s.size n)) from rfl, this]
     rcases Nat.le_total s.size n with hle | hle
     · rw [show Nat.min s.size n = s.size from Nat.min_eq_left hle, List.take_of_length_le (by rw [bl_length]; omega), List.take_of_length_le (by rw [bl_length]; omega)]
     · rw [show Nat.min s.size n = n from Nat.min_eq_right hle]
    rw [e1]; rfl
   unfold execOp
   simp only [ho, resolve, invoke, builtin, Sem.run_bind, Sem.run_pure, Result.andThen_ok, List.map_toArray, List.map_cons, List.map_nil, hx, hy]
   simp only [Builtin.copy_, Sem.run_bind, run_underlying ht, Result.andThen_ok, List.getElem?_toArray, List.getElem?_cons_zero, List.getElem?_cons_succ, Builtin.lenOf, Sem.run_pure, sizeOf, typeInfo, run_program, hq, hqs, Builtin.firstCells, hcells, h1, goInt]
 refine sl_step hw fun K hK => ?_
 unfold Oper.wp
 rw [hrun]
 refine hK _ _ (k _ _ ?_ (hS.byted hi h2 h3))
 cases hd : o.dst with
 | none => exact ha
 | some d => exact fun hN => ha.put hN _
end
end Go.Proofs.YtmlilplbdpjfcaaGreatDoor
namespace Go.Proofs.YtmlilplbdpjfcaaGreatDoor
set_option linter.unusedVariables false
set_option linter.unusedSimpArgs false
open Go.RowKit Go.Sort
inductive Kd where
 | i (k : IntKind)
 | b
 | s
def kindsF (kd : TypeId → Option (List Kd)) : List Field → Nat → Option (List Kd)
 | [], _ => some []
 | f :: fs, off => match kd f.type with
  | none => none
  | some ks => if f.name != "_" && f.offset == off && decide (0 < ks.length) then (kindsF kd fs (off + ks.length)).map (ks ++ ·) else none
def kinds (P : Program) : Nat → TypeId → Option (List Kd)
 | 0, _ => none
 | n + 1, t => match P.underlying t with
  | some (.int k) => some [.i k]
  | some .bool => some [.b]
  | some .string => some [.s]
  | some (.struct fs) => if P.stoodInHeld t then none else match kindsF (kinds P n) fs.toList 0 with
   | none => none
   | some ks => if (P.info? t).map (·.size) == some ks.length then some ks else none
  | _ => none
def isK : Kd → Value → Bool
 | .i k, .int k' _ => decide (k = k')
 | .b, .bool _ => true
 | .s, .string _ => true
 | _, _ => false
def areK : List Kd → List Value → Bool
 | [], [] => true
 | k :: ks, v :: vs => isK k v && areK ks vs
 | _, _ => false
def eqV2 : Value → Value → Bool
 | .int _ a, .int _ b => a == b
 | .bool a, .bool b => a == b
 | .string a, .string b => decide (a = b)
 | _, _ => false
def eqL : List Value → List Value → Bool
 | [], [] => true
 | x :: xs, y :: ys => eqV2 x y && eqL xs ys
 | _, _ => false
theorem areK_length : ∀ {ks : List Kd} {vs : List Value}, areK ks vs = true → vs.length = ks.length
 | [], [], _ => rfl
 | k :: ks, v :: vs, h => by
  unfold areK at h
  rw [Bool.and_eq_true] at h
  simp [areK_length h.2]
 | [], _ :: _, h => by cases h
 | _ :: _, [], h => by cases h
theorem areK_append : ∀ {ks ks' : List Kd} {vs : List Value}, areK (ks ++ ks') vs = true → areK ks (vs.take ks.length) = true ∧ areK ks' (vs.drop ks.length) = true
 | [], ks', vs, h => ⟨by simp [areK], by simpa using h⟩
 | k :: ks, ks', [], h => by cases h
 | k :: ks, ks', v :: vs, h => by
  rw [List.cons_append] at h
  unfold areK at h
  rw [Bool.and_eq_true] at h
  obtain ⟨h1, h2⟩ := areK_append h.2
  refine ⟨?_, ?_⟩
  · show (isK k v && areK ks (vs.take ks.length)) = true
    rw [h.1, h1]; rfl
  · exact h2
theorem eqL_append : ∀ {n : Nat} {xs ys : List Value}, xs.length = ys.length → eqL xs ys = (eqL (xs.take n) (ys.take n) && eqL (xs.drop n) (ys.drop n))
 | 0, xs, ys, _ => by simp [eqL]
 | n + 1, [], [], _ => by simp [eqL]
 | n + 1, x :: xs, y :: ys, h => by
  simp only [List.take_succ_cons, List.drop_succ_cons, eqL]
  rw [eqL_append (n := n) (by simpa using h), Bool.and_assoc]
 | n + 1, [], _ :: _, h => by cases h
 | n + 1, _ :: _, [], h => by cases h
section
variable {P : Program} {X : World}
def valT (P : Program) (t : TypeId) (vs : List Value) : Value := match P.underlying t with
 | some (.struct _) => .agg vs.toArray
 | _ => vs.headD undef
theorem part_run {t : TypeId} {n : Nat} {ks : List Kd} (hk : kinds P n t = some ks) (cs : List Value) (off : Nat) (hl : off + ks.length ≤ cs.length) : (part t cs.toArray off).run P X = .ok (valT P t ((cs.drop off).take ks.length)) X := by
 cases n with
 | zero => cases hk
 | succ n =>
  unfold kinds at hk
  cases hu : P.underlying t with
  | none => rw [hu] at hk; cases hk
  | some td =>
   rw [hu] at hk
   cases td <;> simp only [reduceCtorEq] at hk
   case bool =>
    injection hk with hk; subst hk
    have hlt : off < cs.length := by simp at hl; omega
    have e1 : cs.toArray[off]? = some cs[off] := by simp [hlt]
    have e2 : (cs.drop off).take 1 = [cs[off]] := by rw [List.drop_eq_getElem_cons hlt]; rfl
    simp only [part, isAgg, Sem.run_bind, run_underlying hu, Result.andThen_ok, Sem.run_pure, e1, valT, hu, List.length_cons, List.length_nil, Nat.zero_add, e2, Bool.false_eq_true, if_false]
    rfl
   case int k =>
    injection hk with hk; subst hk
    have hlt : off < cs.length := by simp at hl; omega
    have e1 : cs.toArray[off]? = some cs[off] := by simp [hlt]
    have e2 : (cs.drop off).take 1 = [cs[off]] := by rw [List.drop_eq_getElem_cons hlt]; rfl
    simp only [part, isAgg, Sem.run_bind, run_underlying hu, Result.andThen_ok, Sem.run_pure, e1, valT, hu, List.length_cons, List.length_nil, Nat.zero_add, e2, Bool.false_eq_true, if_false]
    rfl
   case string =>
    injection hk with hk; subst hk
    have hlt : off < cs.length := by simp at hl; omega
    have e1 : cs.toArray[off]? = some cs[off] := by simp [hlt]
    have e2 : (cs.drop off).take 1 = [cs[off]] := by rw [List.drop_eq_getElem_cons hlt]; rfl
    simp only [part, isAgg, Sem.run_bind, run_underlying hu, Result.andThen_ok, Sem.run_pure, e1, valT, hu, List.length_cons, List.length_nil, Nat.zero_add, e2, Bool.false_eq_true, if_false]
    rfl
   case struct fs =>
    split at hk
    · cases hk
    · cases hkf : kindsF (kinds P n) fs.toList 0 with
      | none => rw [hkf] at hk; cases hk
      | some ks' =>
       rw [hkf] at hk
       simp only at hk
       split at hk
       · rename_i hs
         injection hk with hk; subst hk
         rw [beq_iff_eq] at hs
         cases hq : P.info? t with
         | none => rw [hq] at hs; cases hs
         | some q =>
          rw [hq] at hs
          have hqs : q.size = ks'.length := by simpa using hs
          simp [part, isAgg, run_underlying hu, valT, hu, sizeOf, typeInfo, hq, hqs]
          try rw [List.drop_take, Nat.add_sub_cancel_left]
       · cases hk
theorem equal_plain : ∀ (n d : Nat) (t : TypeId) (ks : List Kd), n ≤ d → kinds P n t = some ks → ∀ xs ys : List Value, areK ks xs = true → areK ks ys = true → (Op.equalIn d t (valT P t xs) (valT P t ys)).run P X = .ok (eqL xs ys) X
 | 0, _, _, _, _, hk, _, _, _, _ => by cases hk
 | n + 1, 0, _, _, hnd, _, _, _, _, _ => by omega
 | n + 1, d + 1, t, ks, hnd, hk, xs, ys, hx, hy => by
  unfold kinds at hk
  cases hu : P.underlying t with
  | none => rw [hu] at hk; cases hk
  | some td =>
   rw [hu] at hk
   have hlx := areK_length hx
   have hly := areK_length hy
   cases td <;> simp only [reduceCtorEq] at hk
   case bool =>
    injection hk with hk; subst hk
    match xs, ys, hlx, hly with
    | [x], [y], _, _ =>
     cases x <;> simp [areK, isK] at hx
     cases y <;> simp [areK, isK] at hy
     simp [valT, hu, Op.equalIn, run_underlying hu, eqL, eqV2]
   case int k =>
    injection hk with hk; subst hk
    match xs, ys, hlx, hly with
    | [x], [y], _, _ =>
     cases x <;> simp [areK, isK] at hx
     cases y <;> simp [areK, isK] at hy
     subst hx; subst hy
     simp [valT, hu, Op.equalIn, run_underlying hu, eqL, eqV2]
   case string =>
    injection hk with hk; subst hk
    match xs, ys, hlx, hly with
    | [x], [y], _, _ =>
     cases x <;> simp [areK, isK] at hx
     cases y <;> simp [areK, isK] at hy
     simp [valT, hu, Op.equalIn, run_underlying hu, eqL, eqV2]
     rw [beq_toListBytes, bl_beq]
   case struct fs =>
    split at hk
    · cases hk
    · rename_i hst
      cases hkf : kindsF (kinds P n) fs.toList 0 with
      | none => rw [hkf] at hk; cases hk
      | some ks' =>
       rw [hkf] at hk
       simp only at hk
       split at hk
       · injection hk with hk; subst hk
         have hfo : P.fieldsOf t = fs := by unfold Program.fieldsOf; rw [hu]
         have ev : ∀ zs : List Value, valT P t zs = .agg zs.toArray := fun zs => by unfold valT; rw [hu]
         rw [ev, ev, run_equalIn_struct X d t _ _ (by rw [hfo]; exact hu) (by simpa using hst), hfo]
         have key : ∀ (fl : List Field) (off : Nat) (kl : List Kd), kindsF (kinds P n) fl off = some kl → areK kl (xs.drop off) = true → areK kl (ys.drop off) = true → (Op.eqFields d xs.toArray ys.toArray fl).run P X = .ok (eqL (xs.drop off) (ys.drop off)) X := by
          intro fl
          induction fl with
          | nil =>
           intro off kl h1 h2 h3
           injection h1 with h1; subst h1
           have e1 := areK_length h2
           have e2 := areK_length h3
           have z1 : xs.drop off = [] := List.eq_nil_of_length_eq_zero e1
           have z2 : ys.drop off = [] := List.eq_nil_of_length_eq_zero e2
           rw [z1, z2]
           simp [Op.eqFields, eqL]
          | cons f fl ih =>
           intro off kl h1 h2 h3
           unfold kindsF at h1
           cases hkd : kinds P n f.type with
           | none => rw [hkd] at h1; cases h1
           | some k1 =>
            rw [hkd] at h1
            simp only at h1
            split at h1
            · rename_i hc
              rw [Bool.and_eq_true, Bool.and_eq_true, bne_iff_ne, beq_iff_eq, decide_eq_true_eq] at hc
              obtain ⟨⟨hnm, hof⟩, hpos⟩ := hc
              rw [Option.map_eq_some_iff] at h1
              obtain ⟨k2, hk2, rfl⟩ := h1
              obtain ⟨a1, a2⟩ := areK_append h2
              obtain ⟨b1, b2⟩ := areK_append h3
              have l1 := areK_length a1
              have l2 := areK_length b1
              rw [List.length_take, List.length_drop] at l1 l2
              have p1 := part_run (X := X) hkd xs off (by omega)
              have p2 := part_run (X := X) hkd ys off (by omega)
              have heq := equal_plain n d f.type k1 (by omega) hkd _ _ a1 b1
              rw [List.drop_drop] at a2 b2
              have hrest := ih (off + k1.length) k2 hk2 a2 b2
              have e0 := areK_length h2
              have e0' := areK_length h3
              rw [eqL_append (n := k1.length) (xs := xs.drop off) (ys := ys.drop off) (by omega), List.drop_drop, List.drop_drop]
              unfold Op.eqFields
              rw [if_pos hnm, hof]
              simp only [Sem.run_bind, p1, p2, Result.andThen_ok, heq]
              cases eqL ((xs.drop off).take k1.length) ((ys.drop off).take k1.length) with
              | true => simp only [Bool.not_true, Bool.false_eq_true, if_false, Bool.true_and]; exact hrest
              | false => simp
            · cases h1
         exact key fs.toList 0 ks' hkf (by simpa using hx) (by simpa using hy)
       · cases hk
end
section
variable {P : Program} {ρ : Operand → Value} {X : World} {d : Option Tmp} {ty : TypeId} {ps : String} {af : Array Edge} {g : Option (Nat × Bool)}
theorem run_teql {t : TypeId} {ks : List Kd} {fs : Array Field} {xs ys : List Value} (hk : kinds P 8 t = some ks) (hu : P.underlying t = some (.struct fs)) (hx : areK ks xs = true) (hy : areK ks ys = true) : (Op.equal t (.agg xs.toArray) (.agg ys.toArray)).run P X = .ok (eqL xs ys) X := by
 have := equal_plain (P := P) (X := X) 8 Op.maxDepth t ks (by decide) hk xs ys hx hy
 have ev : ∀ zs : List Value, valT P t zs = .agg zs.toArray := fun zs => by unfold valT; rw [hu]
 rw [ev, ev] at this
 exact this
theorem ex_tneq {x y : Operand} {t t' : TypeId} {ks : List Kd} {fs : Array Field} {xs ys : List Value} (hk : kinds P 8 t = some ks) (hu : P.underlying t = some (.struct fs)) (hg : P.eqGuardType P.depth t = false) (hx : ρ x = .agg xs.toArray) (hy : ρ y = .agg ys.toArray) (hxk : areK ks xs = true) (hyk : areK ks ys = true) :
 (execOp ρ ⟨d, .binOp .neq t x y t', ty, ps, af, g⟩).run P X = .ok (.value (.bool (!eqL xs ys))) X := by
 simp [execOp, hx, hy, eqGuard, hg, binOp, run_teql hk hu hxk hyk]
theorem ex_shr {x y : Operand} {t t' : TypeId} {k k' : IntKind} {m : Int} {n : Nat} (hx : ρ x = .int k m) (hy : ρ y = .int k' (n : Nat)) (h : Nat.ble n k.bits = true) (h0 : 0 ≤ m) : (execOp ρ ⟨d, .binOp .shr t x y t', ty, ps, af, g⟩).run P X = .ok (.value (.int k (m / 2 ^ n))) X := by
 have hn : n ≤ k.bits := Nat.le_of_ble_eq_true h
 have h1 : ¬ ((n : Int) < 0) := by omega
 have h2 : min n k.bits = n := Nat.min_eq_left hn
 simp [execOp, hx, hy, eqGuard, binOp, Op.shift, h1, h2]
 exact Int.fdiv_eq_ediv_of_nonneg _ (Int.le_of_lt (Int.pow_pos (by decide)))
theorem ex_shl {x y : Operand} {t t' : TypeId} {k k' : IntKind} {m r : Int} {n : Nat} (hx : ρ x = .int k m) (hy : ρ y = .int k' (n : Nat)) (h : Nat.ble n k.bits = true) (hr : k.wrap (m * 2 ^ n) = r) : (execOp ρ ⟨d, .binOp .shl t x y t', ty, ps, af, g⟩).run P X = .ok (.value (.int k r)) X := by
 have hn : n ≤ k.bits := Nat.le_of_ble_eq_true h
 have h1 : ¬ ((n : Int) < 0) := by omega
 have h2 : min n k.bits = n := Nat.min_eq_left hn
 simp [execOp, hx, hy, eqGuard, binOp, Op.shift, h1, h2, hr]
theorem ex_bits {x y : Operand} {t t' : TypeId} {op : BinOp} {k : IntKind} {m n r : Int} (ho : (match op with | .and | .or | .xor | .andNot => true | _ => false) = true) (hx : ρ x = .int k m) (hy : ρ y = .int k n) (hr : bits op k m n = r) : (execOp ρ ⟨d, .binOp op t x y t', ty, ps, af, g⟩).run P X = .ok (.value (.int k r)) X := by
 subst hr
 cases op <;> simp at ho <;> simp [execOp, hx, hy, eqGuard, binOp, Op.intBits, bits]
theorem ex_bstr {x : Operand} {src dst e : TypeId} {b o' n c : Nat} {us : List UInt8} (hs : P.underlying src = some (.slice e)) (he : P.underlying e = some (.int .u8)) (hd : P.underlying dst = some .string) (hx : ρ x = .slice (some ⟨b, o', none⟩) n c) (hn : us.length = n)
 (hc : ∀ j (hj : j < us.length), X.cell? ⟨b, o' + j, none⟩ = some (byteV us[j])) : (execOp ρ ⟨d, .convert src dst x, ty, ps, af, g⟩).run P X = .ok (.value (.string (bs us))) X := by
 subst hn
 have := run_convert_bytes_back (P := P) X src dst e ⟨b, o', none⟩ c us hs he hd (fun j hj => by rw [add_none]; exact hc j hj)
 simp [execOp, hx, this]
 rfl
theorem St.bytStr {M : List Nat} {w : World} {L : List Ent} {i b o' n : Nat} {l : List UInt8} (h : St M w X L) (hi : L[i]? = some (.byt b l)) (hn : o' + n ≤ l.length) : ((l.drop o').take n).length = n ∧ ∀ j (hj : j < ((l.drop o').take n).length), X.cell? ⟨b, o' + j, none⟩ = some (byteV ((l.drop o').take n)[j]) := by
 have hl : ((l.drop o').take n).length = n := by rw [List.length_take, List.length_drop]; omega
 refine ⟨hl, fun j hj => ?_⟩
 rw [byt_cell (h.at_ hi) (by omega)]
 congr 2
 rw [List.getElem_take, List.getElem_drop, List.getD_eq_getElem?_getD, List.getElem?_eq_getElem (by omega)]
 rfl
end
section
variable {P : Program} {ops : Array Oper} {rest : List Oper} {o : Oper} {a : Act} {Q : Exit → Act → World → Prop} {X : World} {N d : Nat} {l : List (Nat × Value)} {M : List Nat} {w : World} {E : List Ent}
theorem sl_bset {ty : TypeId} {x y : Operand} {b j i : Nat} {v : Value} {u : UInt8} {l1 : List UInt8} (ha : Has a N l) (hw : Region.wanted o (yielded ops a.tmps) = true) (ho : o.op = .store ty x y ∧ o.dst = none) (hs : (P.info? ty).map (·.size) = some 1) (hx : a.eval x = .pointer (some ⟨b, j, none⟩)) (hy : a.eval y = v) (hv : v = byteV u)
 (hS : St M w X E) (hi : E[i]? = some (.byt b l1)) (hj : j < l1.length) (k : ∀ X', St M w X' (E.set i (.byt b (l1.take j ++ [u] ++ l1.drop (j + 1)))) → wpList P ops Q rest a X') : wpList P ops Q (o :: rest) a X := by
 subst hv
 obtain ⟨X', h1, h2, h3⟩ := byt_put (P := P) (us := [u]) (j := j) (hS.at_ hi) hj
 refine sl_unit hw ?_ ho.2 (k _ (hS.byted hi h2 h3))
 cases hq : P.info? ty with
 | none => rw [hq] at hs; cases hs
 | some q =>
  rw [hq] at hs
  have hqs : q.size = 1 := by simpa using hs
  have hvc : (byteV u).cells = #[byteV u] := rfl
  unfold execOp
  simp only [ho.1, hx, hy, Instr.storeAt, Instr.sureAddr, Sem.run_bind, Sem.run_pure, Result.andThen_ok]
  simp only [List.map_cons, List.map_nil] at h1
  simp [storeVar, sizeOf, typeInfo, hq, hqs, hvc, h1]
theorem sl_appends {s x : Operand} {t u e : TypeId} {v : Value} {n i : Nat} {str : ByteArray} {xs : List Value} (ha : Has a N l) (hw : Region.wanted o (yielded ops a.tmps) = true) (ho : o.op = .call { callee := .builtin .append, args := #[s, x], argTypes := #[t, u] } ∧ o.dst = some d) (hN : Nat.blt d N = true)
 (ht : P.underlying t = some (.slice e)) (hu : P.underlying u = some .string) (hinfo : (P.info? e).map (fun i => (i.zero, i.size, i.bytes)) = some (some (.int .u8 0), 1, 1)) (hs : a.eval s = v) (hx : a.eval x = .string str) (hS : St M w X E) (hi : E[i]? = some (.row v n e 1 xs)) (hb : n + str.size ≤ 1000000)
 (hrun : ∀ (own : X.ownsRow 0 e 1 v n xs) (q : TypeInfo), P.info? e = some q → q.zero = some (.int .u8 0) → q.size = 1 → q.bytes = 1 → ∃ v' w', (Builtin.append_ #[t, u] o.type #[v, .string str]).run P X = .ok v' w' ∧ w'.ownsRow 0 e 1 v' (n + str.size) (xs ++ (bl str).map byteV) ∧ X.grownBy w' v.ownBlock ∧ (v'.ownBlock = v.ownBlock ∨ v'.ownBlock = some X.heap.size))
 (k : ∀ A' c' a' X', Has a' N ((d, .slice A' (n + str.size) c') :: l) → St M w X' (E.set i (.row (.slice A' (n + str.size) c') (n + str.size) e 1 (xs ++ (bl str).map byteV))) → wpList P ops Q rest a' X') : wpList P ops Q (o :: rest) a X := by
 obtain ⟨q, hq, hz1, hz2, hz3⟩ := info_all hinfo
 obtain ⟨v', w', hr, h2, h3, h5⟩ := hrun (hS.at_ hi) q hq hz1 hz2 hz3
 obtain ⟨A', c', rfl, _⟩ := ownsRow_form h2
 refine sl_val (X' := w') (v := .slice A' (n + str.size) c') ha hw ?_ ho.2 hN (fun a' ha' => k A' c' a' w' ha' (hS.grown hi h2 h3 ?_))
 · unfold execOp
   simp only [ho.1, resolve, invoke, builtin, Sem.run_bind, Sem.run_pure, Result.andThen_ok, List.map_toArray, List.map_cons, List.map_nil, hs, hx, hr]
 · rcases h5 with h5 | h5
   · exact .inl h5
   · exact .inr fun g hg => by rw [h5] at hg; injection hg with hg; omega
theorem sl_upd {f : FuncId} {args : Array Value} {i g : Nat} {e e' : Ent} {v : Value} (ha : Has a N l) (hw : Region.wanted o (yielded ops a.tmps) = true) (hx : (execOp a.eval o).run P X = .ok (.enter f args) X) (hS : St M w X E) (hi : E[i]? = some e) (hg : e.dom g)
 (hc : Calls P f args X fun r X' => r = .returned v ∧ St [g] X X' [e']) (k : ∀ a' X', (match o.dst with | some d => Nat.blt d N = true → Has a' N ((d, v) :: l) | none => Has a' N l) → St M w X' (E.set i e') → wpList P ops Q rest a' X') : wpList P ops Q (o :: rest) a X :=
 sl_step hw fun K hK => by
  unfold Oper.wp
  rw [hx]
  refine hc.mono fun r X' ⟨hr, hU⟩ => ?_
  subst hr
  refine hK _ _ (k _ _ ?_ (hS.called hi hU hg))
  cases hd : o.dst with
  | none => exact ha
  | some d => exact fun hN => ha.put hN _
end
theorem st_joinH {P : Program} {Q : Exit → Act → World → Prop} {a : Act} {X : World} {N : Nat} {l : List (Nat × Value)} {c : Code} {M : List Nat} {w : World} {L : List Ent} (ha : Has a N l) (hS : St M w X L) (J : List (Nat × Value)) (ks : List Nat)
 (h1 : c.wp P (Exit.then (fun a' X' => Has a' N (J ++ keepL l ks) ∧ St M w X' L) Q) a X) (h2 : ∀ a' X', Has a' N (J ++ keepL l ks) → St M w X' L → Q .normal a' X') : c.wp P Q a X :=
 st_join _ h1 fun a' X' h => h2 a' X' h.1 h.2
theorem box_all {X : World} {b : Nat} {cs : Array Value} {T : TypeId} (h : Box X b cs T) : ∀ k u, cs.toList[k]? = some u → X.cell? ⟨b, 0 + k, none⟩ = some u := fun k u hk => by
 rw [Nat.zero_add, Box.cells h k]
 simpa using hk
theorem box_cell {X : World} {b j : Nat} {cs : Array Value} {T : TypeId} {v : Value} (h : Box X b cs T) (hj : cs.toList[j]? = some v) : X.cell? ⟨b, j, none⟩ = some v := (Box.cells h j).trans (by rw [← hj]; simp)
end Go.Proofs.YtmlilplbdpjfcaaGreatDoor
namespace Go.Proofs.YtmlilplbdpjfcaaGreatDoor
set_option linter.unusedVariables false
set_option linter.unusedSimpArgs false
open Go.RowKit Go.Sort
section
variable {P : Program}
theorem run_append_zeros_eq (w : World) (t tn u ty e : TypeId) (i : TypeInfo) (kn kq : IntKind) (ht : P.underlying t = some (.slice e)) (htn : P.underlying tn = some (.int kn)) (hu : P.underlying u = some .string) (hi : P.info? e = some i) (hz : i.zero = some (.int .u8 0))
 (hsize : i.size = 1) (hby : i.bytes = 1) (base : Option Addr) (n c k : Nat) (hb : n + k ≤ 1000000) :
 (Builtin.append_ #[t, tn] ty #[.slice base n c, .int kq k]).run P w = (Builtin.append_ #[t, u] ty #[.slice base n c, .string (bs (zerosL k))]).run P w := by
 have hw : IntKind.i64.wrap (k : Int) = k := by rw [IntKind.wrap_i64]; omega
 have hneg : ¬ ((k : Int) < 0) := by omega
 have h48i : ¬ (281474976710656 < (k : Int)) := by omega
 have h63 : ¬ (9223372036854775807 < ((n : Int) + (k : Int))) := by omega
 have hsz : (bs (zerosL k)).size = k := by rw [bs_size]; simp [zerosL]
 have hcells : (Lib.strCells (bs (zerosL k))).toArray = Builtin.zeroCells (Value.int .u8 0).cells k := by
  apply Array.ext'
  apply List.ext_getElem
  · simp [Lib.strCells, bs, zerosL, Builtin.zeroCells, Value.cells]
  · intro j h1 h2
    simp [Lib.strCells, bs, zerosL, Builtin.zeroCells, Value.cells, Nat.mod_one]
 have hf : ∀ W : World, (Builtin.firstCells 1 k (.string (bs (zerosL k)))).run P W = .ok (Builtin.zeroCells (Value.int .u8 0).cells k) W := fun W => by
  have := Lib.run_firstCells_string (P := P) (w := W) 1 (bs (zerosL k))
  rw [hsz, hcells] at this
  exact this
 have hw0 : IntKind.i64.wrap 0 = 0 := by decide
 have hz0 : Builtin.zeroCells (Value.int .u8 0).cells 0 = #[] := by simp [Builtin.zeroCells]
 generalize bs (zerosL k) = str at hsz hf ⊢
 by_cases hn : n + k ≤ c
 · by_cases hk : k = 0
   · subst hk
     rw [hz0] at hf
     simp at hn
     simp [Builtin.append_, run_underlying ht, run_underlying htn, run_underlying hu, sizeOf, typeInfo, hi, hsize, hby, asInt, asIntOf, hw0, hsz, Builtin.lenOf, hf, hn]
   · simp [Builtin.append_, run_underlying ht, run_underlying htn, run_underlying hu, sizeOf, typeInfo, zeroValue, hi, hz, hsize, hby, asInt, asIntOf, hw, hneg, h48i, hsz, hk, hn, Builtin.lenOf, hf]
 · have hfit : Builtin.nextslicecap (n + k) c ≤ 281474976710656 := by
    have := growslice_fits (need := n + k) (old := c) (bytes := 1) (by omega) (by omega)
    omega
   have hfit' : ¬ (281474976710656 < Builtin.nextslicecap (n + k) c) := by omega
   by_cases hk : k = 0
   · subst hk
     rw [hz0] at hf
     simp at hn hfit'
     have hfit2 : ¬ (281474976710656 < Builtin.nextslicecap n c) := by omega
     have hn2 : ¬ (n ≤ c) := by omega
     have h63' : ¬ (9223372036854775807 < (n : Int)) := by omega
     simp [Builtin.append_, run_underlying ht, run_underlying htn, run_underlying hu, sizeOf, typeInfo, zeroValue, hi, hz, hsize, hby, asInt, asIntOf, hw0, hsz, Builtin.lenOf, hf, h63', hn2, hfit2, Question.forced]
   · simp [Builtin.append_, run_underlying ht, run_underlying htn, run_underlying hu, sizeOf, typeInfo, zeroValue, hi, hz, hsize, hby, asInt, asIntOf, hw, hneg, h48i, h63, hsz, hk, hn, Builtin.lenOf, hf, hfit', Question.forced]
theorem run_append_str_block (w : World) (base : Nat) (t u ty e : TypeId) (i : TypeInfo) (ht : P.underlying t = some (.slice e)) (hu : P.underlying u = some .string) (hi : P.info? e = some i) (hz : i.zero = some (.int .u8 0))
 (hsize : i.size = 1) (hby : i.bytes = 1) (v : Value) (n : Nat) (xs : List Value) (hown : w.ownsRow base e 1 v n xs) (s : ByteArray)
 (h63 : n + s.size ≤ maxLen) (hbytes : n + s.size ≤ 140737488355328) {v' : Value} {w' : World} (hrun : (Builtin.append_ #[t, u] ty #[v, .string s]).run P w = .ok v' w') :
 v'.ownBlock = v.ownBlock ∨ v'.ownBlock = some w.heap.size := by
 have hxl : xs.length = n := by simpa using hown.1
 have h63' : n + s.size ≤ 9223372036854775807 := by simp only [maxLen] at h63; omega
 rcases hown.2 with ⟨rfl, rfl⟩ | ⟨g, cap, cur, rfl, hbg, hg, hnc, hcm, hcs, htake⟩
 · by_cases hm : s.size = 0
   · have hf := Lib.run_firstCells_string (P := P) w 1 s
     rw [hm] at hf
     simp [Builtin.append_, run_underlying ht, run_underlying hu, sizeOf, typeInfo, hi, hsize, Builtin.lenOf, hm, hf] at hrun
     exact .inl (by rw [← hrun.1])
   · have hr := run_append_nil_string (P := P) w t u ty e i (.int .u8 0) ht hu hi hz s (by omega) (by omega) (by rw [hby]; omega)
     rw [hr] at hrun
     injection hrun with h1 h2
     exact .inr (by rw [← h1]; rfl)
 · by_cases hroom : n + s.size ≤ cap
   · have hcs' : cur.size = cap := by simpa using hcs
     have hr := Lib.run_append_room_string (P := P) w t u ty e i ht hu hi hsize g n cap cur hg s hroom (by omega)
     rw [hr] at hrun
     injection hrun with h1 h2
     exact .inl (by rw [← h1]; rfl)
   · have holds : ∀ j u, xs[j]? = some u → w.cell? ((⟨g, 0, none⟩ : Addr).add j) = some u := hown.cells (g := g) rfl
     have hr := Lib.run_append_grow_string (P := P) w t u ty e i (.int .u8 0) ht hu hi hz ⟨g, 0, none⟩ n cap xs (by rw [hsize]; simpa using hxl) holds s (by omega) (by omega) (by rw [hby]; exact growslice_fits (by omega) (by omega))
     rw [hr] at hrun
     injection hrun with h1 h2
     exact .inr (by rw [← h1]; rfl)
theorem strCells_bl (s : ByteArray) : Lib.strCells s = (bl s).map byteV := by
 unfold Lib.strCells bl byteV; simp
end
section
variable {P : Program} {ops : Array Oper} {rest : List Oper} {o : Oper} {a : Act} {Q : Exit → Act → World → Prop} {X : World} {N d : Nat} {l : List (Nat × Value)} {M : List Nat} {w : World} {E : List Ent}
theorem St.initO {w : World} {B n sz : Nat} {T : TypeId} {v : Value} {xs : List Value} (h : w.ownsRow B T sz v n xs) : St v.ownBlock.toList w w [.row v n T sz xs] :=
 ⟨rfl, rfl, rfl, Nat.le_refl _, fun _ _ _ => rfl, fun e he => by rw [List.mem_singleton.1 he]; exact ownsRow_mono h (Nat.zero_le _), fun e he b hb => by
  rw [List.mem_singleton.1 he] at hb
  have e1 : v.ownBlock = some b := hb
  exact ⟨.inr (by rw [e1]; simp), (h.lt b e1).2⟩, .cons (fun _ h => by cases h) .nil⟩
theorem St.calledM {w X X' : World} {M M' : List Nat} {L : List Ent} {i : Nat} {e e' : Ent} (h : St M w X L) (hi : L[i]? = some e) (hU : St M' X X' [e']) (hM : ∀ b ∈ M', e.dom b) : St M w X' (L.set i e') :=
 h.turn hi hU.os hU.tape hU.output hU.size (fun b hb hne => hU.block b hb (fun hm => hne (hM b hm))) (hU.ok e' (List.mem_singleton.2 rfl))
  (fun b hb => by
   obtain ⟨h1, h2⟩ := hU.new e' (List.mem_singleton.2 rfl) b hb
   refine ⟨?_, h2⟩
   rcases h1 with h1 | h1
   · exact .inr h1
   · exact .inl (hM b h1))
theorem sl_valn {v : Value} {X' : World} (hw : Region.wanted o (yielded ops a.tmps) = true) (hx : (execOp a.eval o).run P X = .ok (.value v) X') (hd : o.dst = none) (k : wpList P ops Q rest a X') : wpList P ops Q (o :: rest) a X :=
 sl_step hw fun K hK => by
  unfold Oper.wp
  rw [hx]
  exact hK _ _ (by rw [hd]; exact k)
theorem sl_appstr {s x : Operand} {t u e : TypeId} {v : Value} {n i : Nat} {str : ByteArray} {xs : List Value} (ha : Has a N l) (hw : Region.wanted o (yielded ops a.tmps) = true) (ho : o.op = .call { callee := .builtin .append, args := #[s, x], argTypes := #[t, u] } ∧ o.dst = some d) (hN : Nat.blt d N = true)
 (ht : P.underlying t = some (.slice e)) (hu : P.underlying u = some .string) (hinfo : (P.info? e).map (fun i => (i.zero, i.size, i.bytes)) = some (some (.int .u8 0), 1, 1)) (hs : a.eval s = v) (hx : a.eval x = .string str) (hS : St M w X E) (hi : E[i]? = some (.row v n e 1 xs)) (hb : n + str.size ≤ 1000000)
 (k : ∀ A' c' a' X', Has a' N ((d, .slice A' (n + str.size) c') :: l) → St M w X' (E.set i (.row (.slice A' (n + str.size) c') (n + str.size) e 1 (xs ++ (bl str).map byteV))) → wpList P ops Q rest a' X') : wpList P ops Q (o :: rest) a X :=
 sl_appends ha hw ho hN ht hu hinfo hs hx hS hi hb (fun own q hq hz1 hz2 hz3 => by
  obtain ⟨v', w', hr, h2, h3, _⟩ := Lib.run_append_own_string (P := P) X 0 t u o.type e q ht hu hq hz1 hz2 hz3 v n xs own str (by unfold maxLen; omega) (by omega) (Nat.zero_le _)
  exact ⟨v', w', hr, by rw [← strCells_bl]; exact h2, h3, run_append_str_block X 0 t u o.type e q ht hu hq hz1 hz2 hz3 v n xs own str (by unfold maxLen; omega) (by omega) hr⟩) k
theorem sl_appzer {s x : Operand} {t tn u e : TypeId} {v : Value} {kn kq : IntKind} {n i m : Nat} {xs : List Value} (ha : Has a N l) (hw : Region.wanted o (yielded ops a.tmps) = true) (ho : o.op = .call { callee := .builtin .append, args := #[s, x], argTypes := #[t, tn] } ∧ o.dst = some d) (hN : Nat.blt d N = true)
 (ht : P.underlying t = some (.slice e)) (htn : P.underlying tn = some (.int kn)) (hu : P.underlying u = some .string) (hinfo : (P.info? e).map (fun i => (i.zero, i.size, i.bytes)) = some (some (.int .u8 0), 1, 1)) (hs : a.eval s = v) (hx : a.eval x = .int kq (m : Nat)) (hS : St M w X E) (hi : E[i]? = some (.row v n e 1 xs)) (hb : n + m ≤ 1000000)
 (k : ∀ A' c' a' X', Has a' N ((d, .slice A' (n + m) c') :: l) → St M w X' (E.set i (.row (.slice A' (n + m) c') (n + m) e 1 (xs ++ (zerosL m).map byteV))) → wpList P ops Q rest a' X') : wpList P ops Q (o :: rest) a X := by
 have hsz : (bs (zerosL m)).size = m := by rw [bs_size]; simp [zerosL]
 obtain ⟨q, hq, hz1, hz2, hz3⟩ := info_all hinfo
 have own : X.ownsRow 0 e 1 v n xs := hS.at_ hi
 obtain ⟨A, c, rfl, _⟩ := ownsRow_form own
 obtain ⟨v', w', hr, h2, h3, _⟩ := Lib.run_append_own_string (P := P) X 0 t u o.type e q ht hu hq hz1 hz2 hz3 _ n xs own (bs (zerosL m)) (by unfold maxLen; omega) (by omega) (Nat.zero_le _)
 have h5 := run_append_str_block X 0 t u o.type e q ht hu hq hz1 hz2 hz3 _ n xs own (bs (zerosL m)) (by unfold maxLen; omega) (by omega) hr
 rw [← run_append_zeros_eq X t tn u o.type e q kn kq ht htn hu hq hz1 hz2 hz3 A n c m hb] at hr
 rw [hsz, strCells_bl, bl_bs] at h2
 obtain ⟨A', c', rfl, _⟩ := ownsRow_form h2
 refine sl_val (X' := w') (v := .slice A' (n + m) c') ha hw ?_ ho.2 hN (fun a' ha' => k A' c' a' w' ha' (hS.grown hi h2 h3 ?_))
 · unfold execOp
   simp only [ho.1, resolve, invoke, builtin, Sem.run_bind, Sem.run_pure, Result.andThen_ok, List.map_toArray, List.map_cons, List.map_nil, hs, hx, hr]
 · rcases h5 with h5 | h5
   · exact .inl h5
   · exact .inr fun g hg => by rw [h5] at hg; injection hg with hg; omega
theorem sl_bclear {x : Operand} {t e : TypeId} {b o' n c i : Nat} {l1 : List UInt8} (ha : Has a N l) (hw : Region.wanted o (yielded ops a.tmps) = true) (ho : o.op = .call ⟨.builtin .clear, #[x], #[t]⟩ ∧ o.dst = none) (ht : P.underlying t = some (.slice e)) (hinfo : (P.info? e).map (fun i => (i.zero, i.size, i.bytes)) = some (some (.int .u8 0), 1, 1))
 (hx : a.eval x = .slice (some ⟨b, o', none⟩) n c) (hS : St M w X E) (hi : E[i]? = some (.byt b l1)) (hn : o' + n ≤ l1.length)
 (k : ∀ X', St M w X' (E.set i (.byt b (l1.take o' ++ zerosL n ++ l1.drop (o' + n)))) → wpList P ops Q rest a X') : wpList P ops Q (o :: rest) a X := by
 obtain ⟨q, hq, hz1, hz2, hz3⟩ := info_all hinfo
 obtain ⟨X', h1, h2, h3⟩ := byt_put (P := P) (us := zerosL n) (j := o') (hS.at_ hi) (by simpa [zerosL] using hn)
 have hl : (zerosL n).length = n := by simp [zerosL]
 rw [hl] at h3
 have hzc : (Builtin.zeroCells (Value.int .u8 0).cells n).toList = (zerosL n).map byteV := by
  apply List.ext_getElem
  · simp [zerosL, Builtin.zeroCells, Value.cells]
  · intro j h1 h2
    simp [zerosL, Builtin.zeroCells, Value.cells, Nat.mod_one, byteV]
 refine sl_valn (v := .tuple #[]) hw ?_ ho.2 (k _ (hS.byted hi h2 h3))
 cases n with
 | zero =>
  simp [zerosL, storeCells] at h1
  subst h1
  unfold execOp
  simp [ho.1, resolve, invoke, builtin, hx, Builtin.clear_, run_underlying ht]
 | succ n =>
  unfold execOp
  simp [ho.1, resolve, invoke, builtin, hx, Builtin.clear_, run_underlying ht, zeroValue, typeInfo, hq, hz1, hzc, h1]
theorem flat_get {zc : List Value} {sz : Nat} (hzc : zc.length = sz) (hsz : 0 < sz) : ∀ (m k : Nat) (h : k < ((List.replicate m zc).flatten).length), ((List.replicate m zc).flatten)[k]'h = zc[k % sz]'(by rw [hzc]; exact Nat.mod_lt _ hsz) := by
 intro m
 induction m with
 | zero => intro k h; simp at h
 | succ m ih =>
  intro k h
  simp only [List.replicate_succ, List.flatten_cons]
  by_cases hk : k < zc.length
  · rw [List.getElem_append_left hk]
    congr 1
    rw [Nat.mod_eq_of_lt (by omega)]
  · rw [List.getElem_append_right (by omega), ih]
    congr 1
    rw [hzc, ← Nat.mod_eq_sub_mod (by omega)]
theorem zeroCells_flat {z : Value} {zc : List Value} {sz : Nat} (hz : z.cells.toList = zc) (hzc : zc.length = sz) (m : Nat) : (Builtin.zeroCells z.cells m).toList = (List.replicate m zc).flatten := by
 have hs : z.cells.size = sz := by rw [← hzc, ← hz]; simp
 unfold Builtin.zeroCells
 rw [Array.toList_map, Array.toList_range, hs]
 apply List.ext_getElem
 · simp [hzc]
 · intro k h1 h2
   simp only [List.length_map, List.length_range] at h1
   have hsz : 0 < sz := Nat.pos_of_ne_zero fun h => by rw [h] at h1; simp at h1
   rw [List.getElem_map, List.getElem_range, flat_get hzc hsz]
   have hmod : k % sz < z.cells.size := by rw [hs]; exact Nat.mod_lt _ hsz
   rw [getElem!_pos z.cells (k % sz) hmod]
   simp [← hz]
theorem sl_rclear {x : Operand} {t e : TypeId} {g j n c m c' i sz : Nat} {zc : List Value} {xs : List Value} (ha : Has a N l) (hw : Region.wanted o (yielded ops a.tmps) = true) (ho : o.op = .call ⟨.builtin .clear, #[x], #[t]⟩ ∧ o.dst = none) (ht : P.underlying t = some (.slice e)) (hz : ((P.info? e).bind (·.zero)).map (·.cells.toList) = some zc)
 (hzc : zc.length = sz) (hz1 : zc.all (·.oneCell') = true) (hx : a.eval x = .slice (some ⟨g, j, none⟩) m c') (hS : St M w X E) (hi : E[i]? = some (.row (.slice (some ⟨g, 0, none⟩) n c) n e sz xs)) (hj : j + m * sz ≤ n * sz)
 (k : ∀ X', St M w X' (E.set i (.row (.slice (some ⟨g, 0, none⟩) n c) n e sz (xs.take j ++ (List.replicate m zc).flatten ++ xs.drop (j + m * sz)))) → wpList P ops Q rest a X') : wpList P ops Q (o :: rest) a X := by
 have hown : X.ownsRow 0 e sz (.slice (some ⟨g, 0, none⟩) n c) n xs := hS.at_ hi
 obtain ⟨hxl, hrow⟩ := hown
 rcases hrow with ⟨h0, _⟩ | ⟨g', cap, cur, e1, _, hg, hcap, hm, hcs, htk⟩
 · cases h0
 injection e1 with e1 e2 e3
 injection e1 with e1
 injection e1 with e1 _
 subst e1 e3
 generalize hvs : (List.replicate m zc).flatten = vs at k
 have hvl : vs.length = m * sz := by rw [← hvs]; simp [hzc]
 rw [← hvl] at hj k
 have h1 : ∀ u ∈ vs, u.oneCell' = true := fun u hu => by
  rw [← hvs] at hu
  obtain ⟨q, hq, hu⟩ := List.mem_flatten.1 hu
  rw [List.eq_of_mem_replicate hq] at hu
  exact List.all_eq_true.1 hz1 u hu
 have hle : j + vs.length ≤ cur.size := by rw [hcs]; exact Nat.le_trans hj (Nat.mul_le_mul_right _ hcap)
 have hst := storeCells_mid (P := P) g e vs j 0 cur X hg (by simpa using hle) h1
 simp only [Nat.add_zero] at hst
 have hnsz : n * sz ≤ cur.size := by rw [hcs]; exact Nat.mul_le_mul_right _ hcap
 refine sl_valn (v := .tuple #[]) (X' := X.setRow g (cur.toList.take j ++ vs ++ cur.toList.drop (j + vs.length)).toArray) hw ?_ ho.2 (k _ ?_)
 · cases hq : P.info? e with
   | none => rw [hq] at hz; cases hz
   | some q =>
    rw [hq] at hz
    cases hqz : q.zero with
    | none => rw [Option.bind_some, hqz] at hz; cases hz
    | some z =>
     rw [Option.bind_some, hqz] at hz
     have hzz : z.cells.toList = zc := by simpa using hz
     have hflat := zeroCells_flat hzz hzc m
     rw [hvs] at hflat
     cases m with
     | zero =>
      have : vs = [] := by rw [← hvs]; simp
      subst this
      simp [storeCells] at hst ⊢
      unfold execOp
      simp [ho.1, resolve, invoke, builtin, hx, Builtin.clear_, run_underlying ht]
      exact hst
     | succ m =>
      unfold execOp
      simp [ho.1, resolve, invoke, builtin, hx, Builtin.clear_, run_underlying ht, zeroValue, typeInfo, hq, hqz, hflat, hst]
 · have hG := setRow_grw (cs' := (cur.toList.take j ++ vs ++ cur.toList.drop (j + vs.length)).toArray) hg (by simp; omega)
   refine hS.turn hi hG.os hG.tape hG.output hG.size (fun b hb hne => hG.block b hb (fun e => hne (by rw [e]; rfl))) ⟨by simp only [List.length_append, List.length_take, List.length_drop]; omega, .inr ⟨g, c, _, rfl, Nat.zero_le _, setRow_heap X g _ _ _ _ hg, hcap, hm, by simp; omega, ?_⟩⟩ (fun b hb => ⟨.inl hb, ?_⟩)
   · show (cur.toList.take j ++ vs ++ cur.toList.drop (j + vs.length)).take (n * sz) = _
     rw [← htk, List.take_append, List.take_append, List.take_of_length_le (l := vs) (by simp; omega), List.take_take, List.take_take, List.take_drop, List.drop_take]
     have hl1 : (cur.toList.take j ++ vs).length = j + vs.length := by simp; omega
     rw [hl1, Nat.min_eq_right (by omega), Nat.min_eq_left (by omega), show j + vs.length + (n * sz - (j + vs.length)) = n * sz by omega, List.drop_take]
   · have hb' : some g = some b := hb
     injection hb' with hb'
     subst hb'
     exact (Array.getElem?_eq_some_iff.1 (setRow_heap X g _ (cur.toList.take j ++ vs ++ cur.toList.drop (j + vs.length)).toArray _ _ hg)).1
theorem sl_grow {f : FuncId} {args : Array Value} {i n n' sz : Nat} {v : Value} {T : TypeId} {xs xs' : List Value} (ha : Has a N l) (hw : Region.wanted o (yielded ops a.tmps) = true) (hx : (execOp a.eval o).run P X = .ok (.enter f args) X) (hd : o.dst = some d) (hN : Nat.blt d N = true) (hS : St M w X E) (hi : E[i]? = some (.row v n T sz xs))
 (hc : Calls P f args X fun r X' => ∃ A c, r = .returned (.slice A n' c) ∧ St v.ownBlock.toList X X' [.row (.slice A n' c) n' T sz xs']) (k : ∀ A' c' a' X', Has a' N ((d, .slice A' n' c') :: l) → St M w X' (E.set i (.row (.slice A' n' c') n' T sz xs')) → wpList P ops Q rest a' X') : wpList P ops Q (o :: rest) a X :=
 sl_step hw fun K hK => by
  unfold Oper.wp
  rw [hx]
  refine hc.mono fun r X' ⟨A, c, hr, hU⟩ => ?_
  subst hr
  refine hK _ _ ?_
  rw [hd]
  exact k A c _ X' (ha.put hN _) (hS.calledM hi hU (fun b hb => by show v.ownBlock = some b; simpa using hb))
end
section
variable {P : Program} {ρ : Operand → Value} {X : World} {d : Option Tmp} {ty : TypeId} {ps : String} {af : Array Edge} {g : Option (Nat × Bool)}
theorem ex_rstr {x : Operand} {src dst e T : TypeId} {v : Value} {n : Nat} {us : List UInt8} (hs : P.underlying src = some (.slice e)) (he : P.underlying e = some (.int .u8)) (hd : P.underlying dst = some .string) (hx : ρ x = v) (ho : X.ownsRow 0 T 1 v n (us.map byteV)) : (execOp ρ ⟨d, .convert src dst x, ty, ps, af, g⟩).run P X = .ok (.value (.string (bs us))) X := by
 have hl : us.length = n := by simpa using ho.1
 obtain ⟨A, c, rfl, _⟩ := ownsRow_form ho
 cases A with
 | some A =>
  have hx2 := hx
  rcases ho.2 with ⟨h0, _⟩ | ⟨g', cap, cur, e1, _, hg, hcap, hm, hcs, htk⟩
  · cases h0
  injection e1 with e1 e2 e3
  injection e1 with e1
  subst e1
  refine ex_bstr (us := us) (c := c) (o' := 0) hs he hd (by rw [hx]) hl (fun j hj => ?_)
  have hc := ho.cells (g := g') rfl j (byteV us[j]) (by rw [List.getElem?_map, List.getElem?_eq_getElem hj]; rfl)
  rw [add_none] at hc
  exact hc
 | none =>
  have : n = 0 := by
   rcases ho.2 with ⟨h0, _⟩ | ⟨g', cap, cur, e1, _⟩
   · injection h0
   · cases e1
  subst this
  have : us = [] := List.eq_nil_of_length_eq_zero hl
  subst this
  unfold execOp
  simp only [hx, Sem.run_bind, run_convert_bytes_string X src dst e none 0 c hs he hd]
  simp [Conv.bytesToString]
  rfl
end
end Go.Proofs.YtmlilplbdpjfcaaGreatDoor
