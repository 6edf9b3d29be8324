/-
  Append to a row of one's own: what lay below its length is kept wherever the row lies afterwards. Append of one element to a slice that has no room: a new row.
-/
import Derived.Test.YtanicpgmbhfipaaDoorKit
import Derived.ArgAppend
import Derived.Laws.OwnMore
namespace Go.Proofs.YtanicpgmbhfipaaDoor
set_option linter.unusedVariables false
set_option linter.unusedSimpArgs false
open Go.RowKit

section
variable {P : Program} {ops : Array Oper} {rest : List Oper} {o : Oper} {a : Act} {Q : Exit → Act → World → Prop}

theorem run_push2 (w : World) (base : Nat) (t ty e : TypeId) (i : TypeInfo) (z : Value) (size bytes : Nat) (ht : P.underlying t = some (.slice e)) (hi : P.info? e = some i) (hz : i.zero = some z)
    (hsize : i.size = size) (hby : i.bytes = bytes) (hzs : z.cells.size = size) (hsz : 0 < size)
    (v : Value) (n : Nat) (xs : List Value) (hown : w.ownsRow base e size v n xs)
    (ad : Addr) (m c : Nat) (news : List Value) (hl : news.length = m * size) (hc : ∀ j u, news[j]? = some u → w.cell? (ad.add j) = some u) (h1 : ∀ u ∈ news, u.oneCell' = true)
    (h63 : n + m ≤ maxLen) (hbytes : (n + m) * bytes ≤ 140737488355328) (hbase : base ≤ w.heap.size) :
    ∃ v' w', (Builtin.append_ #[t, t] ty #[v, .slice (some ad) m c]).run P w = .ok v' w' ∧ w'.ownsRow base e size v' (n + m) (xs ++ news) ∧ w.grownBy w' v.ownBlock ∧
      (v'.ownBlock = v.ownBlock ∨ ∀ b, v'.ownBlock = some b → w.heap.size ≤ b) ∧ (∀ b k, b < w.heap.size → (v.ownBlock = some b → k < n * size) → w'.cell? ⟨b, k, none⟩ = w.cell? ⟨b, k, none⟩) := by
  rcases hown.2 with ⟨rfl, h0⟩ | ⟨g, cap, cur, rfl, hb, hg, hnc, hrest⟩
  · obtain ⟨v', w', hr, h2, h3, _, h5⟩ := run_append_own_at (P := P) w base t ty e i z size bytes ht hi hz hsize hby hzs hsz _ n xs hown ad m c news hl hc h1 h63 hbytes hbase
    exact ⟨v', w', hr, h2, h3, h5.imp id (fun h b e => by rw [h] at e; injection e with e; omega), fun b k hb _ => World.cell?_of_block (w := w) (a := ⟨b, k, none⟩) (h3.block b hb (fun e => by cases e))⟩
  · have hgl : g < w.heap.size := (Array.getElem?_eq_some_iff.1 hg).1
    by_cases hfit : n + m ≤ cap
    · obtain ⟨w', hr, h2, h3⟩ := run_append_fits (P := P) w base t ty e i size ht hi hsize g n cap xs hown ad m c news hl hc h1 hfit
      refine ⟨_, w', hr, h2, h3, .inl rfl, fun b k hb hk => ?_⟩
      by_cases hbg : b = g
      · subst hbg
        have hk' := hk rfl
        have hlx := hown.1
        have e1 := hown.cellAt k (by omega)
        have e2 := h2.cellAt k (by rw [Nat.add_mul]; omega)
        rw [e1, e2, List.getElem?_append_left (by omega)]
      · exact World.cell?_of_block (w := w) (a := ⟨b, k, none⟩) (h3.block b hb (fun e => hbg (by injection e)))
    · have hlx := hown.1
      obtain ⟨v', w', hr, h2, h3⟩ := run_append_arg_grows (P := P) (w := w) t ty e i z size bytes ht hi hz hsize hby hzs hsz ⟨g, 0, none⟩ n cap xs hlx
        (fun j u hj => by
          have : (⟨g, 0, none⟩ : Addr).add j = ⟨g, j, none⟩ := by unfold Addr.add; split <;> simp_all
          rw [this, hown.cellAt j (by have := (List.getElem?_eq_some_iff.1 hj).1; omega)]
          exact hj) ad m c news hl hc (by omega) h63 hbytes
      refine ⟨v', w', hr, ownsRow_mono h2 hbase, ⟨h3.os, h3.tape, h3.output, h3.size, fun k hk _ => h3.block k hk (fun e => by cases e)⟩, ?_, fun b k hb _ => World.cell?_of_block (w := w) (a := ⟨b, k, none⟩) (h3.block b hb (fun e => by cases e))⟩
      exact .inr fun b e => (h2.lt b e).1
theorem wpList_push2 (w : World) (hgd : o.guard = none) (s x : Operand) (t : TypeId)
    (ho : o.op = .call { callee := .builtin .append, args := #[s, x], argTypes := #[t, t] })
    (base : Nat) (e : TypeId) (i : TypeInfo) (z : Value) (size bytes : Nat) (us : List Value) (ht : P.underlying t = some (.slice e)) (hi : P.info? e = some i) (hz : i.zero = some z)
    (hsize : i.size = size) (hby : i.bytes = bytes) (hzs : z.cells.size = size) (hsz : 0 < size)
    (v : Value) (n : Nat) (xs : List Value) (hs : a.eval s = v) (hown : w.ownsRow base e size v n xs)
    (g : Nat) (hx : a.eval x = .slice (some ⟨g, 0, none⟩) 1 1) (hgs : g = w.heap.size) (hl : us.length = size) (h1 : ∀ u ∈ us, u.oneCell' = true)
    (h63 : n + 1 ≤ maxLen) (hbytes : (n + 1) * bytes ≤ 140737488355328) (hbase : base ≤ w.heap.size)
    (h : ∀ v' w', w'.ownsRow base e size v' (n + 1) (xs ++ us) → (w.alloc (.cells us.toArray e)).grownBy w' v.ownBlock → (v'.ownBlock = v.ownBlock ∨ ∀ b, v'.ownBlock = some b → w.heap.size < b) →
      (∀ b k, b < w.heap.size → (v.ownBlock = some b → k < n * size) → w'.cell? ⟨b, k, none⟩ = w.cell? ⟨b, k, none⟩) → Below base w w' → wpList P ops Q rest (a.put o.dst v') w') : wpList P ops Q (o :: rest) a (w.alloc (.cells us.toArray e)) := by
  subst hgs
  refine wpList_plain hgd fun K hK => ?_
  have hcells : ∀ j u, us[j]? = some u → (w.alloc (.cells us.toArray e)).cell? ((⟨w.heap.size, 0, none⟩ : Addr).add j) = some u := fun j u hj => by
    have : (⟨w.heap.size, 0, none⟩ : Addr).add j = ⟨w.heap.size, j, none⟩ := by unfold Addr.add; split <;> simp_all
    rw [this, World.cell?_alloc_new]
    simpa using hj
  obtain ⟨v', w', hr, h2, h3, h5, h6⟩ := run_push2 (P := P) (w.alloc (.cells us.toArray e)) base t o.type e i z size bytes ht hi hz hsize hby hzs hsz v n xs (hown.alloc _) ⟨w.heap.size, 0, none⟩ 1 1 us (by omega) hcells h1 h63 hbytes (by simp; omega)
  unfold Oper.wp execOp
  simp only [ho, resolve, invoke, builtin, Sem.run_bind, Sem.run_pure, Result.andThen_ok, List.map_toArray, List.map_cons, List.map_nil, hs, hx, hr]
  refine hK _ _ (h v' w' h2 h3 (h5.imp id (fun h b e => by have := h b e; simp at this; omega)) (fun b k hb hk => ?_) ?_)
  · rw [h6 b k (by simp; omega) hk]
    exact World.cell?_of_block (w := w) (a := ⟨b, k, none⟩) (Below.heap_alloc w _ b hb)
  · exact ((Below.refl _ _).alloc hbase _).grown h3 (by simp; omega) (fun g hg => (hown.lt g hg).1)
/-- a slice that has no room, one element more: a new row; nothing turns -/
theorem wpList_push_full (w : World) (hgd : o.guard = none) (s x : Operand) (t : TypeId)
    (ho : o.op = .call { callee := .builtin .append, args := #[s, x], argTypes := #[t, t] })
    (e : TypeId) (i : TypeInfo) (z : Value) (size bytes : Nat) (us : List Value) (ht : P.underlying t = some (.slice e)) (hi : P.info? e = some i) (hz : i.zero = some z)
    (hsize : i.size = size) (hby : i.bytes = bytes) (hzs : z.cells.size = size) (hsz : 0 < size)
    (A : Option Addr) (n : Nat) (xs : List Value) (hs : a.eval s = .slice A n n) (hxl : xs.length = n * size) (B : Nat) (hr : Rd w B A xs)
    (g : Nat) (hx : a.eval x = .slice (some ⟨g, 0, none⟩) 1 1) (hgs : g = w.heap.size) (hl : us.length = size) (h1 : ∀ u ∈ us, u.oneCell' = true)
    (h63 : n + 1 ≤ maxLen) (hbytes : (n + 1) * bytes ≤ 140737488355328)
    (h : ∀ v' w', w'.ownsRow w.heap.size e size v' (n + 1) (xs ++ us) → Below w.heap.size w w' → wpList P ops Q rest (a.put o.dst v') w') : wpList P ops Q (o :: rest) a (w.alloc (.cells us.toArray e)) := by
  subst hgs
  refine wpList_plain hgd fun K hK => ?_
  have hcells : ∀ j u, us[j]? = some u → (w.alloc (.cells us.toArray e)).cell? ((⟨w.heap.size, 0, none⟩ : Addr).add j) = some u := fun j u hj => by
    have : (⟨w.heap.size, 0, none⟩ : Addr).add j = ⟨w.heap.size, j, none⟩ := by unfold Addr.add; split <;> simp_all
    rw [this, World.cell?_alloc_new]
    simpa using hj
  have hold : ∀ b k u, w.cell? ⟨b, k, none⟩ = some u → (w.alloc (.cells us.toArray e)).cell? ⟨b, k, none⟩ = some u := fun b k u hu =>
    (World.cell?_of_block (w := w) (a := ⟨b, k, none⟩) (Below.heap_alloc w _ b (block_lt_of_cell hu))).trans hu
  have main : ∃ v' w', (Builtin.append_ #[t, t] o.type #[.slice A n n, .slice (some ⟨w.heap.size, 0, none⟩) 1 1]).run P (w.alloc (.cells us.toArray e)) = .ok v' w' ∧ w'.ownsRow w.heap.size e size v' (n + 1) (xs ++ us) ∧ (w.alloc (.cells us.toArray e)).grownBy w' none := by
    rcases A with _ | ad
    · have hxn : xs = [] := by
        cases xs with
        | nil => rfl
        | cons u l => obtain ⟨b, k, e, _⟩ := hr 0 u rfl; cases e
      subst hxn
      have hn0 : n = 0 := by
        rcases Nat.eq_zero_or_pos n with h | h
        · exact h
        · have := Nat.mul_pos h hsz; simp at hxl; omega
      subst hn0
      obtain ⟨v', w', hr', h2, h3, _, _⟩ := run_append_own_at (P := P) (w.alloc (.cells us.toArray e)) w.heap.size t o.type e i z size bytes ht hi hz hsize hby hzs hsz (.slice none 0 0) 0 [] (World.ownsRow_nil _ _ _ _) ⟨w.heap.size, 0, none⟩ 1 1 us (by omega) hcells h1 h63 hbytes (by simp)
      exact ⟨v', w', hr', h2, h3⟩
    · obtain ⟨v', w', hr', h2, h3⟩ := run_append_arg_grows (P := P) (w := w.alloc (.cells us.toArray e)) t o.type e i z size bytes ht hi hz hsize hby hzs hsz ad n n xs hxl (fun j u hj => by
        obtain ⟨b, k, e1, _, hc⟩ := hr j u hj
        injection e1 with e1
        subst e1
        have : (⟨b, k, none⟩ : Addr).add j = ⟨b, k + j, none⟩ := by unfold Addr.add; split <;> simp_all
        rw [this]
        exact hold _ _ _ hc) ⟨w.heap.size, 0, none⟩ 1 1 us (by omega) hcells (by omega) h63 hbytes
      exact ⟨v', w', hr', ownsRow_mono h2 (by simp), h3⟩
  obtain ⟨v', w', hr', h2, h3⟩ := main
  unfold Oper.wp execOp
  simp only [ho, resolve, invoke, builtin, Sem.run_bind, Sem.run_pure, Result.andThen_ok, List.map_toArray, List.map_cons, List.map_nil, hs, hx, hr']
  refine hK _ _ (h v' w' h2 ?_)
  exact ((Below.refl _ _).alloc (Nat.le_refl _) _).grown h3 (by simp) (fun g hg => by cases hg)
end
end Go.Proofs.YtanicpgmbhfipaaDoor
