/-
  Chapter 17: the reference's subsets.
-/
import Derived.Test.YtanicpgmbhfipaaDoorAcF
import Derived.Laws.OwnMore
namespace Go.Proofs.YtanicpgmbhfipaaDoor
set_option linter.unusedVariables false
set_option linter.unusedSimpArgs false
open Go.RowKit Go.Sort

/-- append to a literal of one cell: nothing turns -/
theorem run_append_lit {P : Program} (w : World) (base : Nat) (t ty e : TypeId) (i : TypeInfo) (z : Value) (bytes : Nat) (ht : P.underlying t = some (.slice e)) (hi : P.info? e = some i) (hz : i.zero = some z)
    (hsize : i.size = 1) (hby : i.bytes = bytes) (hzs : z.cells.size = 1)
    (g : Nat) (u0 : Value) (hg : w.heap[g]? = some (.cells #[u0] e (0, 0))) (hbg : base ≤ g) (hbw : base ≤ w.heap.size)
    (B : Nat) (A : Option Addr) (m c : Nat) (news : List Value) (hl : news.length = m) (hr : Rd w B A news) (h1 : ∀ u ∈ news, u.oneCell' = true)
    (h63 : 1 + m ≤ maxLen) (hbytes : (1 + m) * bytes ≤ 140737488355328) :
    ∃ v' w', (Builtin.append_ #[t, t] ty #[.slice (some ⟨g, 0, none⟩) 1 1, .slice A m c]).run P w = .ok v' w' ∧ w'.ownsRow base e 1 v' (1 + m) (u0 :: news) ∧ Below w.heap.size w w' := by
  have hown : w.ownsRow base e 1 (.slice (some ⟨g, 0, none⟩) 1 1) 1 [u0] := ⟨rfl, .inr ⟨g, 1, #[u0], rfl, hbg, hg, Nat.le_refl _, by unfold maxLen; omega, rfl, rfl⟩⟩
  rcases A with _ | ad
  · have hm : news = [] := by
      rcases news with _ | ⟨u, l⟩
      · rfl
      · obtain ⟨b, o, h, _⟩ := hr 0 u rfl
        cases h
    subst hm
    obtain rfl : m = 0 := by simpa using hl.symm
    refine ⟨_, w, ?_, hown, Below.refl _ _⟩
    simp [Builtin.append_, run_underlying ht, sizeOf, typeInfo, hi, Builtin.lenOf, Builtin.firstCells, storeCells]
  · have hcells : ∀ j u, news[j]? = some u → w.cell? (ad.add j) = some u := fun j u hj => by
      obtain ⟨b, o, h, _, hc⟩ := hr j u hj
      injection h with h
      subst h
      have : (⟨b, o, none⟩ : Addr).add j = ⟨b, o + j, none⟩ := by unfold Addr.add; split <;> simp_all
      rw [this]
      exact hc
    rcases Nat.eq_zero_or_pos m with hm | hm
    · subst hm
      obtain rfl : news = [] := by simpa using hl
      obtain ⟨w', hrun, h2, h3⟩ := run_append_fits (P := P) w base t ty e i 1 ht hi hsize g 1 1 [u0] hown ad 0 c [] rfl hcells (by simp) (by omega)
      refine ⟨_, w', hrun, h2, ⟨h3.os, h3.tape, h3.output, h3.size, fun b hb => ?_⟩⟩
      by_cases hbg' : b = g
      · subst hbg'
        rcases h2.2 with ⟨h, _⟩ | ⟨g', cap, cur, hv, _, hg', _, _, hcs, htk⟩
        · cases h
        · injection hv with hv1 hv2 hv3
          injection hv1 with hv1
          injection hv1 with hv1
          subst hv1 hv3
          have hc : cur = #[u0] := by
            apply Array.toList_inj.1
            rw [List.take_of_length_le (by rw [Array.length_toList, hcs]; omega)] at htk
            simpa using htk
          rw [hg', hg, hc]
      · exact h3.block b hb (fun e => hbg' (by injection e))
    · obtain ⟨v', w', hrun, h2, h3⟩ := run_append_arg_grows (P := P) (w := w) t ty e i z 1 bytes ht hi hz hsize hby hzs (by decide) ⟨g, 0, none⟩ 1 1 [u0] rfl
        (fun j u hj => by
          have : (⟨g, 0, none⟩ : Addr).add j = ⟨g, j, none⟩ := by unfold Addr.add; split <;> simp_all
          rw [this, hown.cellAt j (by have := (List.getElem?_eq_some_iff.1 hj).1; simpa using this)]
          exact hj) ad m c news (by omega) hcells (by omega) h63 hbytes
      exact ⟨v', w', hrun, ownsRow_mono h2 hbw, ⟨h3.os, h3.tape, h3.output, h3.size, fun b hb => h3.block b hb (fun e => by cases e)⟩⟩
theorem leaves_append_lit {ev : Operand → Value} {o : Oper} {X : World} (s x : Operand) (ho : o.op = .call { callee := .builtin .append, args := #[s, x], argTypes := #[25, 25] })
    (base g : Nat) (a : Int) (hs : ev s = .slice (some ⟨g, 0, none⟩) 1 1) (hg : X.heap[g]? = some (.cells #[.int .i64 a] 3 (0, 0))) (hbg : base ≤ g) (hbw : base ≤ X.heap.size)
    (A : Option Addr) (c : Nat) (l : List Int) (hx : ev x = .slice A l.length c) (hr : Rd X X.heap.size A (l.map (.int .i64))) (hl : l.length ≤ 1000) :
    LeavesR Tryd.prog (RowN base (a :: l)) X ((execOp ev o).run Tryd.prog X) := by
  obtain ⟨i0, hi, hz0, hz1, hz2⟩ := info_parts infoInt
  obtain ⟨v', w', hrun, h2, h3⟩ := run_append_lit X base 25 o.type 3 i0 _ 8 Tryd.underlying25 hi hz0 hz1 hz2 rfl g (.int .i64 a) hg hbg hbw X.heap.size A l.length c (l.map (.int .i64)) (by simp) hr (by intro u hu; obtain ⟨x, _, rfl⟩ := List.mem_map.1 hu; rfl) (by unfold maxLen; omega) (by omega)
  have e : (execOp ev o).run Tryd.prog X = .ok (.value v') w' := by
    unfold execOp
    simp only [ho, resolve, invoke, builtin, Sem.run_bind, Sem.run_pure, Result.andThen_ok, List.map_toArray, List.map_cons, List.map_nil, hs, hx, hrun]
  rw [e]
  obtain ⟨A', c', rfl, _⟩ := ownsRow_form h2
  exact ⟨h3, A', c', by rw [List.length_cons, Nat.add_comm], by rw [List.length_cons, Nat.add_comm, List.map_cons]; exact h2⟩
theorem subL_len : ∀ (l : List Int) (n : Nat), (subL l n).length ≤ 2 ^ l.length
  | l, 0 => by unfold subL; exact Nat.one_le_two_pow
  | [], _ + 1 => by unfold subL; simp
  | a :: l, k + 1 => by
    have h1 := subL_len l k
    have h2 := subL_len l (k + 1)
    unfold subL
    rw [List.length_append, List.length_map, List.length_cons, Nat.pow_succ]
    omega
theorem subL_each : ∀ (l : List Int) (n : Nat), ∀ s ∈ subL l n, s.length ≤ l.length
  | l, 0, s, h => by unfold subL at h; simp at h; subst h; simp
  | [], _ + 1, s, h => by unfold subL at h; simp at h
  | a :: l, k + 1, s, h => by
    unfold subL at h
    rcases List.mem_append.1 h with h | h
    · obtain ⟨x, hx, rfl⟩ := List.mem_map.1 h
      have := subL_each l k x hx
      simp; omega
    · have := subL_each l (k + 1) s h
      simp; omega
def SubR (w : World) (L : List (List Int)) (e : Ending) (W' : World) : Prop := ∃ els B k, e = .returned (.slice B els.length k) ∧ rowsL els = L ∧ W'.ownsRow w.heap.size 25 1 (.slice B els.length k) els.length (rowsV els) ∧ (∀ p ∈ els, InO W' w.heap.size p) ∧ Below w.heap.size w W'
/-- one element more, out of a literal that lies anywhere -/
theorem wpList_push3 {P : Program} {ops : Array Oper} {rest : List Oper} {o : Oper} {a : Act} {Q : Exit → Act → World → Prop} (w : World) (hgd : o.guard = none) (s x : Operand) (t : TypeId)
    (ho : o.op = .call { callee := .builtin .append, args := #[s, x], argTypes := #[t, t] })
    (base : Nat) (e : TypeId) (i : TypeInfo) (z : Value) (size bytes : Nat) (us : List Value) (ht : P.underlying t = some (.slice e)) (hi : P.info? e = some i) (hz : i.zero = some z)
    (hsize : i.size = size) (hby : i.bytes = bytes) (hzs : z.cells.size = size) (hsz : 0 < size)
    (v : Value) (n : Nat) (xs : List Value) (hs : a.eval s = v) (hown : w.ownsRow base e size v n xs)
    (g : Nat) (hx : a.eval x = .slice (some ⟨g, 0, none⟩) 1 1) (hg : w.heap[g]? = some (.cells us.toArray e (0, 0))) (hl : us.length = size) (h1 : ∀ u ∈ us, u.oneCell' = true)
    (h63 : n + 1 ≤ maxLen) (hbytes : (n + 1) * bytes ≤ 140737488355328) (hbase : base ≤ w.heap.size)
    (h : ∀ v' w', w'.ownsRow base e size v' (n + 1) (xs ++ us) → w.grownBy w' v.ownBlock → (v'.ownBlock = v.ownBlock ∨ ∀ b, v'.ownBlock = some b → w.heap.size ≤ b) →
      (∀ b k, b < w.heap.size → (v.ownBlock = some b → k < n * size) → w'.cell? ⟨b, k, none⟩ = w.cell? ⟨b, k, none⟩) → Below base w w' → wpList P ops Q rest (a.put o.dst v') w') : wpList P ops Q (o :: rest) a w := by
  refine wpList_plain hgd fun K hK => ?_
  have hcells : ∀ j u, us[j]? = some u → w.cell? ((⟨g, 0, none⟩ : Addr).add j) = some u := fun j u hj => by
    have : (⟨g, 0, none⟩ : Addr).add j = ⟨g, j, none⟩ := by unfold Addr.add; split <;> simp_all
    rw [this, cell_of_row w g j _ e (0, 0) hg]
    simpa using hj
  obtain ⟨v', w', hr, h2, h3, h5, h6⟩ := run_push2 (P := P) w base t o.type e i z size bytes ht hi hz hsize hby hzs hsz v n xs hown ⟨g, 0, none⟩ 1 1 us (by omega) hcells h1 h63 hbytes hbase
  unfold Oper.wp execOp
  simp only [ho, resolve, invoke, builtin, Sem.run_bind, Sem.run_pure, Result.andThen_ok, List.map_toArray, List.map_cons, List.map_nil, hs, hx, hr]
  exact hK _ _ (h v' w' h2 h3 h5 h6 ((Below.refl _ _).grown h3 hbase (fun g hg => (hown.lt g hg).1)))
/-- literals that lie anywhere above B -/
def Lit1 (B : Nat) (a : Int) (v : Value) (X : World) : Prop := ∃ g, v = .slice (some ⟨g, 0, none⟩) 1 1 ∧ B ≤ g ∧ X.heap[g]? = some (.cells #[.int .i64 a] 3 (0, 0))
theorem Lit1.stable {B : Nat} {a : Int} (v : Value) (X X' : World) (h : Lit1 B a v X) (hb : Below X.heap.size X X') : Lit1 B a v X' := by
  obtain ⟨g, h1, h2, h3⟩ := h
  exact ⟨g, h1, h2, (hb.block g (Array.getElem?_eq_some_iff.1 h3).1).trans h3⟩
def LitR (B : Nat) (l : List Int) (v : Value) (X : World) : Prop := ∃ g A c, v = .slice (some ⟨g, 0, none⟩) 1 1 ∧ B ≤ g ∧ X.heap[g]? = some (.cells #[.slice A l.length c] 25 (0, 0)) ∧ X.ownsRow B 3 1 (.slice A l.length c) l.length (l.map (.int .i64))
theorem LitR.stable {B : Nat} {l : List Int} (v : Value) (X X' : World) (h : LitR B l v X) (hb : Below X.heap.size X X') : LitR B l v X' := by
  obtain ⟨g, A, c, h1, h2, h3, h4⟩ := h
  exact ⟨g, A, c, h1, h2, (hb.block g (Array.getElem?_eq_some_iff.1 h3).1).trans h3, ownsRow_below h4 hb⟩
end Go.Proofs.YtanicpgmbhfipaaDoor
