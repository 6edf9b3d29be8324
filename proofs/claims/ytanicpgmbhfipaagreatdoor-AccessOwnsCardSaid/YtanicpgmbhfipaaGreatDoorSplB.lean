/-
  A walk by steps: rows that grow and are written, bytes.
  A walk by steps: structs compared, more of bytes, bits.
  SPL, part 6: append of zeros that are made, clear, copies between bytes. No program in sight.
  Regions that draw their order, one operation of which writes into blocks whose first cells it keeps ('append' onto a row): the law of Flow once more, what is written told more closely; and 'append' in such a region.
-/
import Derived.Test.YtanicpgmbhfipaaGreatDoorSplA
import Derived.Test.YtanicpgmbhfipaaGreatDoorKitA
import Derived.Lib.ConvBytes
import Derived.Laws.MakeOwn
import Derived.Laws.IdiomStrings
import Derived.Laws.StructEq
import Derived.Lib.AppendZerosOnto
import Derived.Lib.AppendStr
namespace Go.Proofs.YtanicpgmbhfipaaGreatDoor
set_option linter.unusedVariables false
set_option linter.unusedSimpArgs false
open Go.RowKit Go.Sort
variable {ds : List Deferred}
section
variable {M : List Nat} {w X X' : World} {L : List Ent}
theorem St.toRow {i b n sz : Nat} {T : TypeId} {cs : Array Value} (h : St M w X L) (hi : L[i]? = some (.box b cs T)) (hn : cs.toList.length = n * sz) (hm : n ≤ maxLen) : St M w X (L.set i (.row (.slice (some ⟨b, 0, none⟩) n n) n T sz cs.toList)) :=
 h.turn hi rfl rfl rfl (Nat.le_refl _) (fun _ _ _ => rfl) ⟨hn, .inr ⟨b, n, cs, rfl, Nat.zero_le _, h.at_ hi, Nat.le_refl _, hm, by simpa using hn, List.take_of_length_le (by omega)⟩⟩
  (fun k hk => by
   have hk' : some b = some k := hk
   injection hk' with hk'
   subst hk'
   exact ⟨.inl rfl, Box.lt (h.at_ hi)⟩)
theorem St.nilRow (h : St M w X L) (T : TypeId) (sz : Nat) : St M w X (.row (.slice none 0 0) 0 T sz [] :: L) :=
 h.add (Below.refl _ _) (World.ownsRow_nil _ _ _ _) (fun b hb => by cases hb)
theorem St.boxRd {i b : Nat} {cs : Array Value} {T : TypeId} (h : St M w X L) (hi : L[i]? = some (.box b cs T)) : Rd X X.heap.size (some ⟨b, 0, none⟩) cs.toList := fun j u hj =>
 ⟨b, 0, rfl, Box.lt (h.at_ hi), h.cell hi (by rw [Nat.zero_add]; exact hj)⟩
end
theorem setRow_grw {X : World} {b : Nat} {cs cs' : Array Value} {T : TypeId} {fr : Nat × Nat} (hb : X.heap[b]? = some (.cells cs T fr)) (hs : cs'.size = cs.size) : Grw (fun k _ => k = b) X (X.setRow b cs') :=
 ⟨rfl, rfl, rfl, by simp [World.setRow], fun k hk hne => setRow_other X b k _ hne, fun k cs1 T' fr' hk => by
  by_cases e : k = b
  · rw [e, hb] at hk
    injection hk with hk
    injection hk with e1 e2 e3
    subst e1 e2 e3
    exact ⟨_, hs, by rw [e]; exact setRow_heap X b _ _ _ _ hb⟩
  · exact ⟨cs1, rfl, (setRow_other X b k _ e).trans hk⟩⟩
section
variable {P : Program} {ops : Array Oper} {rest : List Oper} {o : Oper} {a : Act} {Q : Exit → Act → World → Prop} {X : World} {N d : Nat} {l : List (Nat × Value)} {M : List Nat} {w : World} {E : List Ent}
theorem info_all {i : Option TypeInfo} {z : Value} {size bytes : Nat} (h : i.map (fun i => (i.zero, i.size, i.bytes)) = some (some z, size, bytes)) : ∃ q, i = some q ∧ q.zero = some z ∧ q.size = size ∧ q.bytes = bytes := by
 cases i with
 | none => cases h
 | some q => injection h with h; injection h with h1 h2; injection h2 with h2 h3; exact ⟨q, rfl, h1, h2, h3⟩
theorem sl_append {s x : Operand} {t e : TypeId} {z v : Value} {n m c i sz bytes : Nat} {A : Option Addr} {xs news : List Value} (ha : Has ds a N l) (hw : Region.wanted o (yielded ops a.tmps) = true) (ho : o.op = .call { callee := .builtin .append, args := #[s, x], argTypes := #[t, t] } ∧ o.dst = some d) (hN : Nat.blt d N = true)
 (ht : P.underlying t = some (.slice e)) (hinfo : (P.info? e).map (fun i => (i.zero, i.size, i.bytes)) = some (some z, sz, bytes)) (hz : z.cells.size = sz) (hsz : Nat.blt 0 sz = true) (hs : a.eval s = v) (hx : a.eval x = .slice A m c) (hS : St M w X E) (hi : E[i]? = some (.row v n e sz xs))
 (hr : Rd X X.heap.size A news) (hl : news.length = m * sz) (h1 : ∀ u ∈ news, u.oneCell' = true) (hb : n + m ≤ 1000000 ∧ bytes ≤ 1000000)
 (k : ∀ A' c' a' X', Has ds a' N ((d, .slice A' (n + m) c') :: l) → St M w X' (E.set i (.row (.slice A' (n + m) c') (n + m) e sz (xs ++ news))) → wpList P ops Q rest a' X') : wpList P ops Q (o :: rest) a X := by
 obtain ⟨q, hq, hz1, hz2, hz3⟩ := info_all hinfo
 have hown : X.ownsRow 0 e sz v n xs := hS.at_ hi
 have hmul : (n + m) * bytes ≤ 1000000 * 1000000 := Nat.mul_le_mul hb.1 hb.2
 obtain ⟨v', w', hrun, h2, h3, h5⟩ := run_append_rd (P := P) X 0 t o.type e q z sz bytes ht hq hz1 hz2 hz3 hz (Nat.lt_of_lt_of_le (Nat.lt_succ_self 0) (Nat.le_of_ble_eq_true hsz)) v n xs hown X.heap.size A m c news hl hr h1 (by unfold maxLen; omega) (by omega) (Nat.zero_le _)
 obtain ⟨A', c', rfl, _⟩ := ownsRow_form h2
 refine sl_val (X' := w') (v := .slice A' (n + m) c') ha hw ?_ ho.2 hN (fun a' ha' => k A' c' a' w' ha' (hS.grown hi h2 h3 ?_))
 · unfold execOp
   simp only [ho.1, resolve, invoke, builtin, Sem.run_bind, Sem.run_pure, Result.andThen_ok, List.map_toArray, List.map_cons, List.map_nil, hs, hx, hrun]
 · rcases h5 with h5 | h5
   · exact .inl h5
   · exact .inr fun g hg => by rw [h5] at hg; injection hg with hg; omega
theorem sl_rowset {ty : TypeId} {x y : Operand} {g j i n c sz : Nat} {v : Value} {vs : List Value} {T : TypeId} {xs : List Value} (ha : Has ds a N l) (hw : Region.wanted o (yielded ops a.tmps) = true) (ho : o.op = .store ty x y ∧ o.dst = none) (hx : a.eval x = .pointer (some ⟨g, j, none⟩)) (hy : a.eval y = v) (hvs : v.cells.toList = vs)
 (hs : (P.info? ty).map (·.size) = some vs.length) (hS : St M w X E) (hi : E[i]? = some (.row (.slice (some ⟨g, 0, none⟩) n c) n T sz xs)) (h1 : vs.all (·.oneCell') = true) (hj : j + vs.length ≤ n * sz)
 (k : ∀ X', St M w X' (E.set i (.row (.slice (some ⟨g, 0, none⟩) n c) n T sz (xs.take j ++ vs ++ xs.drop (j + vs.length)))) → wpList P ops Q rest a X') : wpList P ops Q (o :: rest) a X := by
 have hown : X.ownsRow 0 T sz (.slice (some ⟨g, 0, none⟩) n c) n xs := hS.at_ hi
 obtain ⟨hxl, hrow⟩ := hown
 rcases hrow with ⟨h0, _⟩ | ⟨g', cap, cur, e1, _, hg, hcap, hm, hcs, htk⟩
 · cases h0
 injection e1 with e1 e2 e3
 injection e1 with e1
 injection e1 with e1 _
 subst e1 e3
 have hle : j + vs.length ≤ cur.size := by rw [hcs]; exact Nat.le_trans hj (Nat.mul_le_mul_right _ hcap)
 have hst := storeCells_mid (P := P) g T vs j 0 cur X hg (by simpa using hle) (fun u hu => List.all_eq_true.1 h1 u hu)
 simp only [Nat.add_zero] at hst
 have hnsz : n * sz ≤ cur.size := by rw [hcs]; exact Nat.mul_le_mul_right _ hcap
 refine sl_unit (X' := X.setRow g (cur.toList.take j ++ vs ++ cur.toList.drop (j + vs.length)).toArray) hw ?_ ho.2 (k _ ?_)
 · cases hq : P.info? ty with
   | none => rw [hq] at hs; cases hs
   | some q =>
    rw [hq] at hs
    have hsz : q.size = vs.length := by simpa using hs
    have hcsz : v.cells.size = vs.length := by rw [← hvs]; simp
    unfold execOp
    simp only [ho.1, hx, hy, Instr.storeAt, Instr.sureAddr, Sem.run_bind, Sem.run_pure, Result.andThen_ok]
    simp [storeVar, sizeOf, typeInfo, hq, hsz, hcsz, hvs, hst]
 · have hG := setRow_grw (cs' := (cur.toList.take j ++ vs ++ cur.toList.drop (j + vs.length)).toArray) hg (by simp; omega)
   refine hS.turn hi hG.os hG.tape hG.output hG.size (fun b hb hne => hG.block b hb (fun e => hne (by rw [e]; rfl))) ⟨by simp only [List.length_append, List.length_take, List.length_drop]; omega, .inr ⟨g, c, _, rfl, Nat.zero_le _, setRow_heap X g _ _ _ _ hg, hcap, hm, by simp; omega, ?_⟩⟩ (fun b hb => ⟨.inl hb, ?_⟩)
   · show (cur.toList.take j ++ vs ++ cur.toList.drop (j + vs.length)).take (n * sz) = _
     rw [← htk, List.take_append, List.take_append, List.take_of_length_le (l := vs) (by simp; omega), List.take_take, List.take_take, List.take_drop, List.drop_take]
     have hl1 : (cur.toList.take j ++ vs).length = j + vs.length := by simp; omega
     rw [hl1, Nat.min_eq_right (by omega), Nat.min_eq_left (by omega), show j + vs.length + (n * sz - (j + vs.length)) = n * sz by omega, List.drop_take]
   · have hb' : some g = some b := hb
     injection hb' with hb'
     subst hb'
     exact (Array.getElem?_eq_some_iff.1 (setRow_heap X g _ (cur.toList.take j ++ vs ++ cur.toList.drop (j + vs.length)).toArray _ _ hg)).1
theorem ex_bslice2 {ρ : Operand → Value} {t e : TypeId} {n sz : Nat} {parts : Array (Nat × Operand)} {zc : List Value} {us : List Value} {ixs : List Nat} {cs : List Value} (ho : o.op = .buildSlice t n parts)
 (ht : P.underlying t = some (.slice e)) (hz : ((P.info? e).bind (·.zero)).map (·.cells.toList) = some zc) (hs : (P.info? e).map (·.size) = some sz) (hzc : zc.length = sz) (hsz : Nat.blt 0 sz = true) (hn : Nat.blt (n * sz) 16777216 = true) (hv : parts.toList.map (fun p => ρ p.2) = us) (hi : parts.toList.map (·.1) = ixs)
 (hf : fillS ((List.range n).map fun i => (i * sz, sz)) (List.replicate n zc).flatten (ixs.zip us) = some cs) (hin : ixs.all (fun i => Nat.blt i n) = true) :
 (execOp ρ o).run P X = .ok (.value (.slice (some ⟨X.heap.size, 0, none⟩) n n)) (X.alloc (.cells cs.toArray e)) := by
 have hps : parts.toList.map (fun x => (x.1, ρ x.2)) = ixs.zip us := by
  have hz : ∀ l : List (Nat × Operand), l.map (fun x => (x.1, ρ x.2)) = (l.map (·.1)).zip (l.map fun p => ρ p.2) := by
   intro l
   induction l with
   | nil => rfl
   | cons p l ih => simp [ih]
  rw [← hv, ← hi, ← hz parts.toList]
 have hsz' : 0 < sz := Nat.lt_of_lt_of_le (Nat.lt_succ_self 0) (Nat.le_of_ble_eq_true hsz)
 have hn' : n * sz < 16777216 := Nat.le_of_ble_eq_true hn
 cases hq : P.info? e with
 | none => rw [hq] at hs; cases hs
 | some q =>
  rw [hq] at hs hz
  have hqs : q.size = sz := by simpa using hs
  cases hqz : q.zero with
  | none => rw [Option.bind_some, hqz] at hz; cases hz
  | some z =>
   rw [Option.bind_some, hqz] at hz
   have hzz : z.cells.toList = zc := by simpa using hz
   have hzs : z.cells.size = sz := by rw [← hzc, ← hzz]; simp
   have hcells : (Array.range (n * sz)).map (z.cells[· % z.cells.size]!) = (List.replicate n zc).flatten.toArray := by
    apply Array.ext'
    rw [Array.toList_map, Array.toList_range]
    apply List.ext_getElem
    · simp [hzc]
    · intro k h1 h2
      simp only [List.length_map, List.length_range] at h1
      rw [List.getElem_map, List.getElem_range, hzs]
      have hmod : k % sz < z.cells.size := by rw [hzs]; exact Nat.mod_lt _ hsz'
      have hget : ∀ (m k : Nat) (h : k < ((List.replicate m zc).flatten).length), ((List.replicate m zc).flatten)[k]'h = zc[k % sz]'(by rw [hzc]; exact Nat.mod_lt _ hsz') := by
       intro m
       induction m with
       | zero => intro k h; simp at h
       | succ m ih =>
        intro k h
        simp only [List.replicate_succ, List.flatten_cons]
        by_cases hk : k < zc.length
        · rw [List.getElem_append_left hk]
          congr 1
          rw [Nat.mod_eq_of_lt (by omega)]
        · rw [List.getElem_append_right (by omega), ih]
          congr 1
          rw [hzc, ← Nat.mod_eq_sub_mod (by omega)]
      simp only [List.toList_toArray]
      rw [hget]
      rw [getElem!_pos z.cells (k % sz) hmod]
      simp [← hzz]
   have hfs := fill_S _ _ _ _ hf
   have hfill : ∀ (ps : List (Nat × Value)) (cells : Array Value), (∀ p ∈ ps, p.1 < n) → Instr.fill (((List.range n).map fun i => (i * sz, sz)).toArray[·]?) cells ps = Instr.fill (fun i => some (i * sz, sz)) cells ps := by
    intro ps
    induction ps with
    | nil => intro cells _; rfl
    | cons p ps ih =>
     intro cells hp
     obtain ⟨i, v⟩ := p
     unfold Instr.fill
     have e1 : ((List.range n).map fun i => (i * sz, sz)).toArray[i]? = some (i * sz, sz) := by
      have := hp (i, v) (by simp)
      simp at this
      simp [this]
     rw [e1]
     simp only
     split
     · rfl
     · exact ih _ (fun q hq => hp q (by simp [hq]))
   rw [hfill _ _ (fun p hp => by
    have := List.all_eq_true.1 hin p.1 (by
     have := (List.of_mem_zip (a := p.1) (b := p.2) (by simpa using hp)).1
     exact this)
    exact Nat.le_of_ble_eq_true this)] at hfs
   unfold execOp
   simp only [ho]
   have h24 : ¬ (16777216 < n * sz) := by omega
   by_cases hn0 : n = 0
   · subst hn0
     have hr0 : Array.range 0 = #[] := rfl
     simp only [Nat.zero_mul, List.replicate_zero, List.flatten_nil] at hfs ⊢
     simp [hr0, Instr.buildSlice, run_underlying ht, sizeOf, typeInfo, hq, hqs, hps, hfs, newRow]
   · have hne : n * sz ≠ 0 := by have := Nat.mul_pos (Nat.pos_of_ne_zero hn0) hsz'; omega
     simp [Instr.buildSlice, run_underlying ht, sizeOf, typeInfo, hq, hqs, zeroValue, hqz, hps, hcells, hfs, newRow, h24, hne]
theorem sl_bslice {t e : TypeId} {n sz : Nat} {parts : Array (Nat × Operand)} {zc : List Value} {us : List Value} {ixs : List Nat} {cs : List Value} (ha : Has ds a N l) (hw : Region.wanted o (yielded ops a.tmps) = true) (ho : o.op = .buildSlice t n parts ∧ o.dst = some d) (hN : Nat.blt d N = true)
 (ht : P.underlying t = some (.slice e)) (hz : ((P.info? e).bind (·.zero)).map (·.cells.toList) = some zc) (hs : (P.info? e).map (·.size) = some sz) (hzc : zc.length = sz) (hsz : Nat.blt 0 sz = true) (hn : Nat.blt (n * sz) 16777216 = true) (hv : parts.toList.map (fun p => a.eval p.2) = us) (hi : parts.toList.map (·.1) = ixs)
 (hf : fillS ((List.range n).map fun i => (i * sz, sz)) (List.replicate n zc).flatten (ixs.zip us) = some cs) (hin : ixs.all (fun i => Nat.blt i n) = true) (hS : St M w X E)
 (k : ∀ b a' X', w.heap.size ≤ b → Has ds a' N ((d, .slice (some ⟨b, 0, none⟩) n n) :: l) → St M w X' (.box b cs.toArray e :: E) → wpList P ops Q rest a' X') : wpList P ops Q (o :: rest) a X :=
 sl_new (f := fun b => .slice (some ⟨b, 0, none⟩) n n) (cs := cs.toArray) (T := e) ha hw (ex_bslice2 ho.1 ht hz hs hzc hsz hn hv hi hf hin) ho.2 hN hS k
end
section
variable {P : Program} {ρ : Operand → Value} {X : World} {d : Option Tmp} {ty : TypeId} {ps : String} {af : Array Edge} {g : Option (Nat × Bool)}
end
section
variable {P : Program} {ops : Array Oper} {rest : List Oper} {o : Oper} {a : Act} {Q : Exit → Act → World → Prop} {X : World} {N d : Nat} {l : List (Nat × Value)} {M : List Nat} {w : World} {E : List Ent}
end
end Go.Proofs.YtanicpgmbhfipaaGreatDoor
namespace Go.Proofs.YtanicpgmbhfipaaGreatDoor
set_option linter.unusedVariables false
set_option linter.unusedSimpArgs false
open Go.RowKit Go.Sort
variable {ds : List Deferred}
inductive Kd where
 | i (k : IntKind)
 | b
 | s
def kindsF (kd : TypeId → Option (List Kd)) : List Field → Nat → Option (List Kd)
 | [], _ => some []
 | f :: fs, off => match kd f.type with
  | none => none
  | some ks => if f.name != "_" && f.offset == off && decide (0 < ks.length) then (kindsF kd fs (off + ks.length)).map (ks ++ ·) else none
def kinds (P : Program) : Nat → TypeId → Option (List Kd)
 | 0, _ => none
 | n + 1, t => match P.underlying t with
  | some (.int k) => some [.i k]
  | some .bool => some [.b]
  | some .string => some [.s]
  | some (.struct fs) => if P.stoodInHeld t then none else match kindsF (kinds P n) fs.toList 0 with
   | none => none
   | some ks => if (P.info? t).map (·.size) == some ks.length then some ks else none
  | _ => none
def isK : Kd → Value → Bool
 | .i k, .int k' _ => decide (k = k')
 | .b, .bool _ => true
 | .s, .string _ => true
 | _, _ => false
def areK : List Kd → List Value → Bool
 | [], [] => true
 | k :: ks, v :: vs => isK k v && areK ks vs
 | _, _ => false
def eqV2 : Value → Value → Bool
 | .int _ a, .int _ b => a == b
 | .bool a, .bool b => a == b
 | .string a, .string b => decide (a = b)
 | _, _ => false
def eqL : List Value → List Value → Bool
 | [], [] => true
 | x :: xs, y :: ys => eqV2 x y && eqL xs ys
 | _, _ => false
theorem areK_length : ∀ {ks : List Kd} {vs : List Value}, areK ks vs = true → vs.length = ks.length
 | [], [], _ => rfl
 | k :: ks, v :: vs, h => by
  unfold areK at h
  rw [Bool.and_eq_true] at h
  simp [areK_length h.2]
 | [], _ :: _, h => by cases h
 | _ :: _, [], h => by cases h
theorem areK_append : ∀ {ks ks' : List Kd} {vs : List Value}, areK (ks ++ ks') vs = true → areK ks (vs.take ks.length) = true ∧ areK ks' (vs.drop ks.length) = true
 | [], ks', vs, h => ⟨by simp [areK], by simpa using h⟩
 | k :: ks, ks', [], h => by cases h
 | k :: ks, ks', v :: vs, h => by
  rw [List.cons_append] at h
  unfold areK at h
  rw [Bool.and_eq_true] at h
  obtain ⟨h1, h2⟩ := areK_append h.2
  refine ⟨?_, ?_⟩
  · show (isK k v && areK ks (vs.take ks.length)) = true
    rw [h.1, h1]; rfl
  · exact h2
theorem eqL_append : ∀ {n : Nat} {xs ys : List Value}, xs.length = ys.length → eqL xs ys = (eqL (xs.take n) (ys.take n) && eqL (xs.drop n) (ys.drop n))
 | 0, xs, ys, _ => by simp [eqL]
 | n + 1, [], [], _ => by simp [eqL]
 | n + 1, x :: xs, y :: ys, h => by
  simp only [List.take_succ_cons, List.drop_succ_cons, eqL]
  rw [eqL_append (n := n) (by simpa using h), Bool.and_assoc]
 | n + 1, [], _ :: _, h => by cases h
 | n + 1, _ :: _, [], h => by cases h
section
variable {P : Program} {X : World}
def valT (P : Program) (t : TypeId) (vs : List Value) : Value := match P.underlying t with
 | some (.struct _) => .agg vs.toArray
 | _ => vs.headD undef
theorem part_run {t : TypeId} {n : Nat} {ks : List Kd} (hk : kinds P n t = some ks) (cs : List Value) (off : Nat) (hl : off + ks.length ≤ cs.length) : (part t cs.toArray off).run P X = .ok (valT P t ((cs.drop off).take ks.length)) X := by
 cases n with
 | zero => cases hk
 | succ n =>
  unfold kinds at hk
  cases hu : P.underlying t with
  | none => rw [hu] at hk; cases hk
  | some td =>
   rw [hu] at hk
   cases td <;> simp only [reduceCtorEq] at hk
   case bool =>
    injection hk with hk; subst hk
    have hlt : off < cs.length := by simp at hl; omega
    have e1 : cs.toArray[off]? = some cs[off] := by simp [hlt]
    have e2 : (cs.drop off).take 1 = [cs[off]] := by rw [List.drop_eq_getElem_cons hlt]; rfl
    simp only [part, isAgg, Sem.run_bind, run_underlying hu, Result.andThen_ok, Sem.run_pure, e1, valT, hu, List.length_cons, List.length_nil, Nat.zero_add, e2, Bool.false_eq_true, if_false]
    rfl
   case int k =>
    injection hk with hk; subst hk
    have hlt : off < cs.length := by simp at hl; omega
    have e1 : cs.toArray[off]? = some cs[off] := by simp [hlt]
    have e2 : (cs.drop off).take 1 = [cs[off]] := by rw [List.drop_eq_getElem_cons hlt]; rfl
    simp only [part, isAgg, Sem.run_bind, run_underlying hu, Result.andThen_ok, Sem.run_pure, e1, valT, hu, List.length_cons, List.length_nil, Nat.zero_add, e2, Bool.false_eq_true, if_false]
    rfl
   case string =>
    injection hk with hk; subst hk
    have hlt : off < cs.length := by simp at hl; omega
    have e1 : cs.toArray[off]? = some cs[off] := by simp [hlt]
    have e2 : (cs.drop off).take 1 = [cs[off]] := by rw [List.drop_eq_getElem_cons hlt]; rfl
    simp only [part, isAgg, Sem.run_bind, run_underlying hu, Result.andThen_ok, Sem.run_pure, e1, valT, hu, List.length_cons, List.length_nil, Nat.zero_add, e2, Bool.false_eq_true, if_false]
    rfl
   case struct fs =>
    split at hk
    · cases hk
    · cases hkf : kindsF (kinds P n) fs.toList 0 with
      | none => rw [hkf] at hk; cases hk
      | some ks' =>
       rw [hkf] at hk
       simp only at hk
       split at hk
       · rename_i hs
         injection hk with hk; subst hk
         rw [beq_iff_eq] at hs
         cases hq : P.info? t with
         | none => rw [hq] at hs; cases hs
         | some q =>
          rw [hq] at hs
          have hqs : q.size = ks'.length := by simpa using hs
          simp [part, isAgg, run_underlying hu, valT, hu, sizeOf, typeInfo, hq, hqs]
          try rw [List.drop_take, Nat.add_sub_cancel_left]
       · cases hk
theorem equal_plain : ∀ (n d : Nat) (t : TypeId) (ks : List Kd), n ≤ d → kinds P n t = some ks → ∀ xs ys : List Value, areK ks xs = true → areK ks ys = true → (Op.equalIn d t (valT P t xs) (valT P t ys)).run P X = .ok (eqL xs ys) X
 | 0, _, _, _, _, hk, _, _, _, _ => by cases hk
 | n + 1, 0, _, _, hnd, _, _, _, _, _ => by omega
 | n + 1, d + 1, t, ks, hnd, hk, xs, ys, hx, hy => by
  unfold kinds at hk
  cases hu : P.underlying t with
  | none => rw [hu] at hk; cases hk
  | some td =>
   rw [hu] at hk
   have hlx := areK_length hx
   have hly := areK_length hy
   cases td <;> simp only [reduceCtorEq] at hk
   case bool =>
    injection hk with hk; subst hk
    match xs, ys, hlx, hly with
    | [x], [y], _, _ =>
     cases x <;> simp [areK, isK] at hx
     cases y <;> simp [areK, isK] at hy
     simp [valT, hu, Op.equalIn, run_underlying hu, eqL, eqV2]
   case int k =>
    injection hk with hk; subst hk
    match xs, ys, hlx, hly with
    | [x], [y], _, _ =>
     cases x <;> simp [areK, isK] at hx
     cases y <;> simp [areK, isK] at hy
     subst hx; subst hy
     simp [valT, hu, Op.equalIn, run_underlying hu, eqL, eqV2]
   case string =>
    injection hk with hk; subst hk
    match xs, ys, hlx, hly with
    | [x], [y], _, _ =>
     cases x <;> simp [areK, isK] at hx
     cases y <;> simp [areK, isK] at hy
     simp [valT, hu, Op.equalIn, run_underlying hu, eqL, eqV2]
     rw [beq_toListBytes, bl_beq]
   case struct fs =>
    split at hk
    · cases hk
    · rename_i hst
      cases hkf : kindsF (kinds P n) fs.toList 0 with
      | none => rw [hkf] at hk; cases hk
      | some ks' =>
       rw [hkf] at hk
       simp only at hk
       split at hk
       · injection hk with hk; subst hk
         have hfo : P.fieldsOf t = fs := by unfold Program.fieldsOf; rw [hu]
         have ev : ∀ zs : List Value, valT P t zs = .agg zs.toArray := fun zs => by unfold valT; rw [hu]
         rw [ev, ev, run_equalIn_struct X d t _ _ (by rw [hfo]; exact hu) (by simpa using hst), hfo]
         have key : ∀ (fl : List Field) (off : Nat) (kl : List Kd), kindsF (kinds P n) fl off = some kl → areK kl (xs.drop off) = true → areK kl (ys.drop off) = true → (Op.eqFields d xs.toArray ys.toArray fl).run P X = .ok (eqL (xs.drop off) (ys.drop off)) X := by
          intro fl
          induction fl with
          | nil =>
           intro off kl h1 h2 h3
           injection h1 with h1; subst h1
           have e1 := areK_length h2
           have e2 := areK_length h3
           have z1 : xs.drop off = [] := List.eq_nil_of_length_eq_zero e1
           have z2 : ys.drop off = [] := List.eq_nil_of_length_eq_zero e2
           rw [z1, z2]
           simp [Op.eqFields, eqL]
          | cons f fl ih =>
           intro off kl h1 h2 h3
           unfold kindsF at h1
           cases hkd : kinds P n f.type with
           | none => rw [hkd] at h1; cases h1
           | some k1 =>
            rw [hkd] at h1
            simp only at h1
            split at h1
            · rename_i hc
              rw [Bool.and_eq_true, Bool.and_eq_true, bne_iff_ne, beq_iff_eq, decide_eq_true_eq] at hc
              obtain ⟨⟨hnm, hof⟩, hpos⟩ := hc
              rw [Option.map_eq_some_iff] at h1
              obtain ⟨k2, hk2, rfl⟩ := h1
              obtain ⟨a1, a2⟩ := areK_append h2
              obtain ⟨b1, b2⟩ := areK_append h3
              have l1 := areK_length a1
              have l2 := areK_length b1
              rw [List.length_take, List.length_drop] at l1 l2
              have p1 := part_run (X := X) hkd xs off (by omega)
              have p2 := part_run (X := X) hkd ys off (by omega)
              have heq := equal_plain n d f.type k1 (by omega) hkd _ _ a1 b1
              rw [List.drop_drop] at a2 b2
              have hrest := ih (off + k1.length) k2 hk2 a2 b2
              have e0 := areK_length h2
              have e0' := areK_length h3
              rw [eqL_append (n := k1.length) (xs := xs.drop off) (ys := ys.drop off) (by omega), List.drop_drop, List.drop_drop]
              unfold Op.eqFields
              rw [if_pos hnm, hof]
              simp only [Sem.run_bind, p1, p2, Result.andThen_ok, heq]
              cases eqL ((xs.drop off).take k1.length) ((ys.drop off).take k1.length) with
              | true => simp only [Bool.not_true, Bool.false_eq_true, if_false, Bool.true_and]; exact hrest
              | false => simp
            · cases h1
         exact key fs.toList 0 ks' hkf (by simpa using hx) (by simpa using hy)
       · cases hk
end
section
variable {P : Program} {ρ : Operand → Value} {X : World} {d : Option Tmp} {ty : TypeId} {ps : String} {af : Array Edge} {g : Option (Nat × Bool)}
theorem run_teql {t : TypeId} {ks : List Kd} {fs : Array Field} {xs ys : List Value} (hk : kinds P 8 t = some ks) (hu : P.underlying t = some (.struct fs)) (hx : areK ks xs = true) (hy : areK ks ys = true) : (Op.equal t (.agg xs.toArray) (.agg ys.toArray)).run P X = .ok (eqL xs ys) X := by
 have := equal_plain (P := P) (X := X) 8 Op.maxDepth t ks (by decide) hk xs ys hx hy
 have ev : ∀ zs : List Value, valT P t zs = .agg zs.toArray := fun zs => by unfold valT; rw [hu]
 rw [ev, ev] at this
 exact this
theorem ex_tneq {x y : Operand} {t t' : TypeId} {ks : List Kd} {fs : Array Field} {xs ys : List Value} (hk : kinds P 8 t = some ks) (hu : P.underlying t = some (.struct fs)) (hg : P.eqGuardType P.depth t = false) (hx : ρ x = .agg xs.toArray) (hy : ρ y = .agg ys.toArray) (hxk : areK ks xs = true) (hyk : areK ks ys = true) :
 (execOp ρ ⟨d, .binOp .neq t x y t', ty, ps, af, g⟩).run P X = .ok (.value (.bool (!eqL xs ys))) X := by
 simp [execOp, hx, hy, eqGuard, hg, binOp, run_teql hk hu hxk hyk]
theorem ex_shr {x y : Operand} {t t' : TypeId} {k k' : IntKind} {m : Int} {n : Nat} (hx : ρ x = .int k m) (hy : ρ y = .int k' (n : Nat)) (h : Nat.ble n k.bits = true) (h0 : 0 ≤ m) : (execOp ρ ⟨d, .binOp .shr t x y t', ty, ps, af, g⟩).run P X = .ok (.value (.int k (m / 2 ^ n))) X := by
 have hn : n ≤ k.bits := Nat.le_of_ble_eq_true h
 have h1 : ¬ ((n : Int) < 0) := by omega
 have h2 : min n k.bits = n := Nat.min_eq_left hn
 simp [execOp, hx, hy, eqGuard, binOp, Op.shift, h1, h2]
 exact Int.fdiv_eq_ediv_of_nonneg _ (Int.le_of_lt (Int.pow_pos (by decide)))
theorem ex_bits {x y : Operand} {t t' : TypeId} {op : BinOp} {k : IntKind} {m n r : Int} (ho : (match op with | .and | .or | .xor | .andNot => true | _ => false) = true) (hx : ρ x = .int k m) (hy : ρ y = .int k n) (hr : bits op k m n = r) : (execOp ρ ⟨d, .binOp op t x y t', ty, ps, af, g⟩).run P X = .ok (.value (.int k r)) X := by
 subst hr
 cases op <;> simp at ho <;> simp [execOp, hx, hy, eqGuard, binOp, Op.intBits, bits]
end
section
variable {P : Program} {ops : Array Oper} {rest : List Oper} {o : Oper} {a : Act} {Q : Exit → Act → World → Prop} {X : World} {N d : Nat} {l : List (Nat × Value)} {M : List Nat} {w : World} {E : List Ent}
end
theorem st_joinH {P : Program} {Q : Exit → Act → World → Prop} {a : Act} {X : World} {N : Nat} {l : List (Nat × Value)} {c : Code} {M : List Nat} {w : World} {L : List Ent} (ha : Has ds a N l) (hS : St M w X L) (J : List (Nat × Value)) (ks : List Nat)
 (h1 : c.wp P (Exit.then (fun a' X' => Has ds a' N (J ++ keepL l ks) ∧ St M w X' L) Q) a X) (h2 : ∀ a' X', Has ds a' N (J ++ keepL l ks) → St M w X' L → Q .normal a' X') : c.wp P Q a X :=
 st_join _ h1 fun a' X' h => h2 a' X' h.1 h.2
theorem box_cell {X : World} {b j : Nat} {cs : Array Value} {T : TypeId} {v : Value} (h : Box X b cs T) (hj : cs.toList[j]? = some v) : X.cell? ⟨b, j, none⟩ = some v := (Box.cells h j).trans (by rw [← hj]; simp)
end Go.Proofs.YtanicpgmbhfipaaGreatDoor
namespace Go.Proofs.YtanicpgmbhfipaaGreatDoor
set_option linter.unusedVariables false
set_option linter.unusedSimpArgs false
open Go.RowKit Go.Sort
variable {ds : List Deferred}
section
variable {P : Program}
end
section
variable {P : Program} {ops : Array Oper} {rest : List Oper} {o : Oper} {a : Act} {Q : Exit → Act → World → Prop} {X : World} {N d : Nat} {l : List (Nat × Value)} {M : List Nat} {w : World} {E : List Ent}
theorem St.initO {w : World} {B n sz : Nat} {T : TypeId} {v : Value} {xs : List Value} (h : w.ownsRow B T sz v n xs) : St v.ownBlock.toList w w [.row v n T sz xs] :=
 ⟨rfl, rfl, rfl, Nat.le_refl _, fun _ _ _ => rfl, fun e he => by rw [List.mem_singleton.1 he]; exact ownsRow_mono h (Nat.zero_le _), fun e he b hb => by
  rw [List.mem_singleton.1 he] at hb
  have e1 : v.ownBlock = some b := hb
  exact ⟨.inr (by rw [e1]; simp), (h.lt b e1).2⟩, .cons (fun _ h => by cases h) .nil⟩
theorem St.calledM {w X X' : World} {M M' : List Nat} {L : List Ent} {i : Nat} {e e' : Ent} (h : St M w X L) (hi : L[i]? = some e) (hU : St M' X X' [e']) (hM : ∀ b ∈ M', e.dom b) : St M w X' (L.set i e') :=
 h.turn hi hU.os hU.tape hU.output hU.size (fun b hb hne => hU.block b hb (fun hm => hne (hM b hm))) (hU.ok e' (List.mem_singleton.2 rfl))
  (fun b hb => by
   obtain ⟨h1, h2⟩ := hU.new e' (List.mem_singleton.2 rfl) b hb
   refine ⟨?_, h2⟩
   rcases h1 with h1 | h1
   · exact .inr h1
   · exact .inl (hM b h1))
end
section
variable {P : Program} {ρ : Operand → Value} {X : World} {d : Option Tmp} {ty : TypeId} {ps : String} {af : Array Edge} {g : Option (Nat × Bool)}
end
end Go.Proofs.YtanicpgmbhfipaaGreatDoor
namespace Go.Proofs.YtanicpgmbhfipaaGreatDoor
set_option linter.unusedVariables false
set_option linter.unusedSimpArgs false
open Go.RowKit Go.Sort
variable {ds : List Deferred}
def Keeps (K : Nat) (X X' : World) : Prop := ∀ (b : Nat) (cs : Array Value) (T : TypeId) (fr : Nat × Nat), X.heap[b]? = some (.cells cs T fr) → ∃ cs', X'.heap[b]? = some (.cells cs' T fr) ∧ cs'.size = cs.size ∧ cs'.toList.take K = cs.toList.take K
def Kp (O : Nat → Prop) (K : Nat) (X X' : World) : Prop := Grw (fun b _ => O b) X X' ∧ Keeps K X X'
theorem Kp.refl (O : Nat → Prop) (K : Nat) (X : World) : Kp O K X X := ⟨Grw.refl _ _, fun b cs T fr h => ⟨cs, h, rfl, rfl⟩⟩
theorem Kp.of_below {O : Nat → Prop} {K : Nat} {X X' : World} (h : Below X.heap.size X X') : Kp O K X X' :=
 ⟨Grw.of_below h, fun b cs T fr hb => ⟨cs, (h.block b (Array.getElem?_eq_some_iff.1 hb).1).trans hb, rfl, rfl⟩⟩
theorem Kp.weaken {O O' : Nat → Prop} {K : Nat} {X X' : World} (h : Kp O K X X') (hO : ∀ b, O b → O' b) : Kp O' K X X' := ⟨h.1.weaken (fun b _ hb => hO b hb), h.2⟩
section
variable {P : Program}
end
def LeavesA (P : Program) (O : Nat → Prop) (K : Nat) (R : Value → World → Prop) (X : World) : Result Next → Prop
 | .ok (.value u) X' => Kp O K X X' ∧ R u X'
 | .ok .skip X' => Kp O K X X' ∧ R undef X'
 | .ok (.enter f args) X' => X' = X ∧ Calls P f args X (fun e X'' => ∃ v, e = .returned v ∧ Kp O K X X'' ∧ R v X'')
 | _ => False
section
variable {P : Program} {ops : Array Oper} {Q : Exit → Act → World → Prop}
def wpNA (P : Program) (ops : Array Oper) (O : Nat → Prop) (K : Nat) (w : World) (Q : Exit → Act → World → Prop) (tail : List Oper) : List Nd → Act → List (Nat × (World → Prop)) → Prop
 | [], g, Φ => ∀ X, Grw (fun b _ => O b) w X → toldAll Φ X → wpList P ops Q tail g X
 | d :: rest, g, Φ => ((∀ v X X', d.R v X → Below X.heap.size X X' → d.R v X') ∧ (d.st = false → ∀ v X X', d.R v X → Kp O K X X' → d.R v X')) ∧
  (∀ o, ops[d.k]? = some o → ∀ X, Grw (fun b _ => O b) w X → (d.st = true → Below w.heap.size w X) → told d.deps Φ X → (d.st = false → LeavesR P d.R X ((execOp g.eval o).run P X)) ∧ (d.st = true → LeavesA P O K d.R X ((execOp g.eval o).run P X))) ∧
  ∀ v, wpNA P ops O K w Q tail rest (g.put (dstAt ops d.k) v) ((d.k, d.R v) :: Φ)
theorem wpNK_of_NA {O : Nat → Prop} {K m : Nat} {w : World} {tail : List Oper} : ∀ (nds : List Nd) (g : Act) (Φ : List (Nat × (World → Prop))), (∀ d ∈ nds, d.st = Nat.beq d.k m) → wpNA P ops O K w Q tail nds g Φ → wpNK P ops [(m, (fun b _ => O b), Keeps K)] w Q tail ((nds.map Nd.lift).map NdA.lift) g Φ
 | [], g, Φ, _, h => fun X hX _ hΦ => h X (hX.weaken (fun x o ⟨p, hp, hpo⟩ => by rw [List.mem_singleton.1 hp] at hpo; exact hpo)) hΦ
 | d :: rest, g, Φ, hm, ⟨⟨h1, h1b⟩, h2, h3⟩ => by
  have hd := hm d (by simp)
  refine ⟨⟨fun v X X' => h1 v X X', fun p hp hne _ v X X' hR hX => ?_, fun _ _ _ _ h => h⟩, fun o ho X hX hE hΦ => ?_, fun v => wpNK_of_NA rest _ _ (fun x hx => hm x (by simp [hx])) (h3 v)⟩
  · have hp' := List.mem_singleton.1 hp
    subst hp'
    refine h1b ?_ v X X' hR hX
    rw [hd, Bool.eq_false_iff]
    exact fun e => hne (Nat.eq_of_beq_eq_true e).symm
  · have hgx : Grw (fun b _ => O b) w X := hX.weaken (fun x o ⟨p, hp, _, hpo⟩ => by rw [List.mem_singleton.1 hp] at hpo; exact hpo)
    obtain ⟨k1, k2⟩ := h2 o ho X hgx (fun hds => (hX.weaken (O' := fun _ _ => False) (fun x o ⟨p, hp, hne, hpo⟩ => by
     rw [List.mem_singleton.1 hp] at hne
     rw [hd] at hds
     exact hne (Nat.eq_of_beq_eq_true hds).symm)).below) hΦ
    show LeavesK P _ d.k d.R X ((execOp g.eval o).run P X)
    cases hds : d.st with
    | false =>
     have h := k1 hds
     generalize (execOp g.eval o).run P X = r at *
     cases r with
     | ok nx w' =>
      cases nx <;> simp only [LeavesR] at h <;> simp only [LeavesK]
      case value u => exact ⟨.inl h.1, h.2⟩
      case enter f args => exact ⟨h.1, h.2.mono fun e X'' ⟨v, h1, h2, h3⟩ => ⟨v, h1, .inl h2, h3⟩⟩
     | halt x w' => simp only [LeavesR] at h
    | true =>
     have h := k2 hds
     have hk : m = d.k := (Nat.eq_of_beq_eq_true (hd.symm.trans hds)).symm
     generalize (execOp g.eval o).run P X = r at *
     cases r with
     | ok nx w' =>
      cases nx <;> simp only [LeavesA] at h <;> simp only [LeavesK]
      case value u => exact ⟨.inr ⟨_, List.mem_singleton.2 rfl, hk, h.1⟩, h.2⟩
      case skip => exact ⟨.inr ⟨_, List.mem_singleton.2 rfl, hk, h.1⟩, h.2⟩
      case enter f args => exact ⟨h.1, h.2.mono fun e X'' ⟨v, h1, h2, h3⟩ => ⟨v, h1, .inr ⟨_, List.mem_singleton.2 rfl, hk, h2⟩, h3⟩⟩
     | halt x w' => simp only [LeavesA] at h
theorem an_flowA {N m : Nat} {a : Act} {w : World} {l : List Oper} {sl : List (Nat × Value)} (ha : Has ds a N sl) (O : Nat → Prop) (K : Nat) (fl : List Bool) (nds : List Nd)
 (h : wpC P l.toArray (Grw (fun b _ => O b) w) (fun g => wpNA P l.toArray O K w Q (l.drop fl.length) nds g []) (pick fl l) a)
 (hB : flowBK l.toArray fl fl.length N (nds.map fun d => (d.k, d.deps)) = true) (hst : nds.all (fun d => d.st == Nat.beq d.k m) = true) :
 Drawn P l Q a w := by
 obtain ⟨afin, h1, h2⟩ := wpC_take _ _ h
 have hne := wpNK_of_NA (m := m) nds afin [] (fun d hd => by simpa using List.all_eq_true.1 hst d hd) h2
 refine an_flowK0 [(m, (fun b _ => O b), Keeps K)] fl ((nds.map Nd.lift).map NdA.lift) (by rw [ha.size, List.map_map, List.map_map]; exact hB) ⟨afin, ?_, hne⟩
 exact wpC_anti (fun X hX => hX.weaken (fun x o ⟨p, hp, hpo⟩ => by rw [List.mem_singleton.1 hp] at hpo; exact hpo)) _ _ h1
theorem dr_flowA {id N m : Nat} {a : Act} {w : World} {l : List Oper} {sl : List (Nat × Value)} (ha : Has ds a N sl) (O : Nat → Prop) (K : Nat) (fl : List Bool) (nds : List Nd) (hm : P.follows .mixedOrders = true)
 (h : wpC P l.toArray (Grw (fun b _ => O b) w) (fun g => wpNA P l.toArray O K w Q (l.drop fl.length) nds g []) (pick fl l) a)
 (hB : flowBK l.toArray fl fl.length N (nds.map fun d => (d.k, d.deps)) = true) (hst : nds.all (fun d => d.st == Nat.beq d.k m) = true) :
 (Code.region id l.toArray true).wp P Q a w := wp_region_any hm (an_flowA ha O K fl nds h hB hst)
variable {w : World} {tail : List Oper} {l : List (Nat × Value)} {o : Oper} {a : Act} {N d : Nat} {O : Nat → Prop} {K : Nat}
theorem na_store {nds : List Nd} {k : Nat} {deps : List Nat} {R : Value → World → Prop} {Φ : List (Nat × (World → Prop))} (ha : Has ds a N l) (ho : ops[k]? = some o) (hd : o.dst = none)
 (hst : ∀ v X X', R v X → Below X.heap.size X X' → R v X') (hx : ∀ X, Below w.heap.size w X → told deps Φ X → LeavesA P O K R X ((execOp a.eval o).run P X))
 (k' : ∀ v, wpNA P ops O K w Q tail nds a ((k, R v) :: Φ)) : wpNA P ops O K w Q tail (⟨k, deps, R, true⟩ :: nds) a Φ := by
 refine ⟨⟨hst, fun h => by cases h⟩, fun o' ho' X hX hb hΦ => ⟨fun h => (by cases h), fun _ => ?_⟩, fun v => ?_⟩
 · rw [ho] at ho'; cases ho'
   exact hx X (hb rfl) hΦ
 · have e : dstAt ops k = none := by unfold dstAt; rw [ho]; exact hd
   show wpNA P ops O K w Q tail nds (a.put (dstAt ops k) v) _
   rw [e]
   exact k' v
theorem na_end {Φ : List (Nat × (World → Prop))} (h : ∀ X, Grw (fun b _ => O b) w X → toldAll Φ X → wpList P ops Q tail a X) : wpNA P ops O K w Q tail [] a Φ := h
end
end Go.Proofs.YtanicpgmbhfipaaGreatDoor
