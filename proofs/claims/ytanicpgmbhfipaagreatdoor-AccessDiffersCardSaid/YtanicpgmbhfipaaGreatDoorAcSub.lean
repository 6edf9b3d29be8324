/-
  Chapter 17: the reference's subsets.
-/
import Derived.Test.YtanicpgmbhfipaaGreatDoorAcF
import Derived.Laws.OwnMore
namespace Go.Proofs.YtanicpgmbhfipaaGreatDoor
set_option linter.unusedVariables false
set_option linter.unusedSimpArgs false
open Go.RowKit Go.Sort

/-- append to a literal of one cell: nothing turns -/
theorem run_append_lit {P : Program} (w : World) (base : Nat) (t ty e : TypeId) (i : TypeInfo) (z : Value) (bytes : Nat) (ht : P.underlying t = some (.slice e)) (hi : P.info? e = some i) (hz : i.zero = some z)
    (hsize : i.size = 1) (hby : i.bytes = bytes) (hzs : z.cells.size = 1)
    (g : Nat) (u0 : Value) (hg : w.heap[g]? = some (.cells #[u0] e (0, 0))) (hbg : base ≤ g) (hbw : base ≤ w.heap.size)
    (B : Nat) (A : Option Addr) (m c : Nat) (news : List Value) (hl : news.length = m) (hr : Rd w B A news) (h1 : ∀ u ∈ news, u.oneCell' = true)
    (h63 : 1 + m ≤ maxLen) (hbytes : (1 + m) * bytes ≤ 140737488355328) :
    ∃ v' w', (Builtin.append_ #[t, t] ty #[.slice (some ⟨g, 0, none⟩) 1 1, .slice A m c]).run P w = .ok v' w' ∧ w'.ownsRow base e 1 v' (1 + m) (u0 :: news) ∧ Below w.heap.size w w' := by
  have hown : w.ownsRow base e 1 (.slice (some ⟨g, 0, none⟩) 1 1) 1 [u0] := ⟨rfl, .inr ⟨g, 1, #[u0], rfl, hbg, hg, Nat.le_refl _, by unfold maxLen; omega, rfl, rfl⟩⟩
  rcases A with _ | ad
  · have hm : news = [] := by
      rcases news with _ | ⟨u, l⟩
      · rfl
      · obtain ⟨b, o, h, _⟩ := hr 0 u rfl
        cases h
    subst hm
    obtain rfl : m = 0 := by simpa using hl.symm
    refine ⟨_, w, ?_, hown, Below.refl _ _⟩
    simp [Builtin.append_, run_underlying ht, sizeOf, typeInfo, hi, Builtin.lenOf, Builtin.firstCells, storeCells]
  · have hcells : ∀ j u, news[j]? = some u → w.cell? (ad.add j) = some u := fun j u hj => by
      obtain ⟨b, o, h, _, hc⟩ := hr j u hj
      injection h with h
      subst h
      have : (⟨b, o, none⟩ : Addr).add j = ⟨b, o + j, none⟩ := by unfold Addr.add; split <;> simp_all
      rw [this]
      exact hc
    rcases Nat.eq_zero_or_pos m with hm | hm
    · subst hm
      obtain rfl : news = [] := by simpa using hl
      obtain ⟨w', hrun, h2, h3⟩ := run_append_fits (P := P) w base t ty e i 1 ht hi hsize g 1 1 [u0] hown ad 0 c [] rfl hcells (by simp) (by omega)
      refine ⟨_, w', hrun, h2, ⟨h3.os, h3.tape, h3.output, h3.size, fun b hb => ?_⟩⟩
      by_cases hbg' : b = g
      · subst hbg'
        rcases h2.2 with ⟨h, _⟩ | ⟨g', cap, cur, hv, _, hg', _, _, hcs, htk⟩
        · cases h
        · injection hv with hv1 hv2 hv3
          injection hv1 with hv1
          injection hv1 with hv1
          subst hv1 hv3
          have hc : cur = #[u0] := by
            apply Array.toList_inj.1
            rw [List.take_of_length_le (by rw [Array.length_toList, hcs]; omega)] at htk
            simpa using htk
          rw [hg', hg, hc]
      · exact h3.block b hb (fun e => hbg' (by injection e))
    · obtain ⟨v', w', hrun, h2, h3⟩ := run_append_arg_grows (P := P) (w := w) t ty e i z 1 bytes ht hi hz hsize hby hzs (by decide) ⟨g, 0, none⟩ 1 1 [u0] rfl
        (fun j u hj => by
          have : (⟨g, 0, none⟩ : Addr).add j = ⟨g, j, none⟩ := by unfold Addr.add; split <;> simp_all
          rw [this, hown.cellAt j (by have := (List.getElem?_eq_some_iff.1 hj).1; simpa using this)]
          exact hj) ad m c news (by omega) hcells (by omega) h63 hbytes
      exact ⟨v', w', hrun, ownsRow_mono h2 hbw, ⟨h3.os, h3.tape, h3.output, h3.size, fun b hb => h3.block b hb (fun e => by cases e)⟩⟩
theorem leaves_append_lit {ev : Operand → Value} {o : Oper} {X : World} (s x : Operand) (ho : o.op = .call { callee := .builtin .append, args := #[s, x], argTypes := #[25, 25] })
    (base g : Nat) (a : Int) (hs : ev s = .slice (some ⟨g, 0, none⟩) 1 1) (hg : X.heap[g]? = some (.cells #[.int .i64 a] 3 (0, 0))) (hbg : base ≤ g) (hbw : base ≤ X.heap.size)
    (A : Option Addr) (c : Nat) (l : List Int) (hx : ev x = .slice A l.length c) (hr : Rd X X.heap.size A (l.map (.int .i64))) (hl : l.length ≤ 1000) :
    LeavesR Tryz.prog (RowN base (a :: l)) X ((execOp ev o).run Tryz.prog X) := by
  obtain ⟨i0, hi, hz0, hz1, hz2⟩ := info_parts infoInt
  obtain ⟨v', w', hrun, h2, h3⟩ := run_append_lit X base 25 o.type 3 i0 _ 8 Tryz.underlying25 hi hz0 hz1 hz2 rfl g (.int .i64 a) hg hbg hbw X.heap.size A l.length c (l.map (.int .i64)) (by simp) hr (by intro u hu; obtain ⟨x, _, rfl⟩ := List.mem_map.1 hu; rfl) (by unfold maxLen; omega) (by omega)
  have e : (execOp ev o).run Tryz.prog X = .ok (.value v') w' := by
    unfold execOp
    simp only [ho, resolve, invoke, builtin, Sem.run_bind, Sem.run_pure, Result.andThen_ok, List.map_toArray, List.map_cons, List.map_nil, hs, hx, hrun]
  rw [e]
  obtain ⟨A', c', rfl, _⟩ := ownsRow_form h2
  exact ⟨h3, A', c', by rw [List.length_cons, Nat.add_comm], by rw [List.length_cons, Nat.add_comm, List.map_cons]; exact h2⟩
theorem subL_len : ∀ (l : List Int) (n : Nat), (subL l n).length ≤ 2 ^ l.length
  | l, 0 => by unfold subL; exact Nat.one_le_two_pow
  | [], _ + 1 => by unfold subL; simp
  | a :: l, k + 1 => by
    have h1 := subL_len l k
    have h2 := subL_len l (k + 1)
    unfold subL
    rw [List.length_append, List.length_map, List.length_cons, Nat.pow_succ]
    omega
theorem subL_each : ∀ (l : List Int) (n : Nat), ∀ s ∈ subL l n, s.length ≤ l.length
  | l, 0, s, h => by unfold subL at h; simp at h; subst h; simp
  | [], _ + 1, s, h => by unfold subL at h; simp at h
  | a :: l, k + 1, s, h => by
    unfold subL at h
    rcases List.mem_append.1 h with h | h
    · obtain ⟨x, hx, rfl⟩ := List.mem_map.1 h
      have := subL_each l k x hx
      simp; omega
    · have := subL_each l (k + 1) s h
      simp; omega
def SubR (w : World) (L : List (List Int)) (e : Ending) (W' : World) : Prop := ∃ els B k, e = .returned (.slice B els.length k) ∧ rowsL els = L ∧ W'.ownsRow w.heap.size 25 1 (.slice B els.length k) els.length (rowsV els) ∧ (∀ p ∈ els, InO W' w.heap.size p) ∧ Below w.heap.size w W'
/-- one element more, out of a literal that lies anywhere -/
theorem wpList_push3 {P : Program} {ops : Array Oper} {rest : List Oper} {o : Oper} {a : Act} {Q : Exit → Act → World → Prop} (w : World) (hgd : o.guard = none) (s x : Operand) (t : TypeId)
    (ho : o.op = .call { callee := .builtin .append, args := #[s, x], argTypes := #[t, t] })
    (base : Nat) (e : TypeId) (i : TypeInfo) (z : Value) (size bytes : Nat) (us : List Value) (ht : P.underlying t = some (.slice e)) (hi : P.info? e = some i) (hz : i.zero = some z)
    (hsize : i.size = size) (hby : i.bytes = bytes) (hzs : z.cells.size = size) (hsz : 0 < size)
    (v : Value) (n : Nat) (xs : List Value) (hs : a.eval s = v) (hown : w.ownsRow base e size v n xs)
    (g : Nat) (hx : a.eval x = .slice (some ⟨g, 0, none⟩) 1 1) (hg : w.heap[g]? = some (.cells us.toArray e (0, 0))) (hl : us.length = size) (h1 : ∀ u ∈ us, u.oneCell' = true)
    (h63 : n + 1 ≤ maxLen) (hbytes : (n + 1) * bytes ≤ 140737488355328) (hbase : base ≤ w.heap.size)
    (h : ∀ v' w', w'.ownsRow base e size v' (n + 1) (xs ++ us) → w.grownBy w' v.ownBlock → (v'.ownBlock = v.ownBlock ∨ ∀ b, v'.ownBlock = some b → w.heap.size ≤ b) →
      (∀ b k, b < w.heap.size → (v.ownBlock = some b → k < n * size) → w'.cell? ⟨b, k, none⟩ = w.cell? ⟨b, k, none⟩) → Below base w w' → wpList P ops Q rest (a.put o.dst v') w') : wpList P ops Q (o :: rest) a w := by
  refine wpList_plain hgd fun K hK => ?_
  have hcells : ∀ j u, us[j]? = some u → w.cell? ((⟨g, 0, none⟩ : Addr).add j) = some u := fun j u hj => by
    have : (⟨g, 0, none⟩ : Addr).add j = ⟨g, j, none⟩ := by unfold Addr.add; split <;> simp_all
    rw [this, cell_of_row w g j _ e (0, 0) hg]
    simpa using hj
  obtain ⟨v', w', hr, h2, h3, h5, h6⟩ := run_push2 (P := P) w base t o.type e i z size bytes ht hi hz hsize hby hzs hsz v n xs hown ⟨g, 0, none⟩ 1 1 us (by omega) hcells h1 h63 hbytes hbase
  unfold Oper.wp execOp
  simp only [ho, resolve, invoke, builtin, Sem.run_bind, Sem.run_pure, Result.andThen_ok, List.map_toArray, List.map_cons, List.map_nil, hs, hx, hr]
  exact hK _ _ (h v' w' h2 h3 h5 h6 ((Below.refl _ _).grown h3 hbase (fun g hg => (hown.lt g hg).1)))
/-- literals that lie anywhere above B -/
def Lit1 (B : Nat) (a : Int) (v : Value) (X : World) : Prop := ∃ g, v = .slice (some ⟨g, 0, none⟩) 1 1 ∧ B ≤ g ∧ X.heap[g]? = some (.cells #[.int .i64 a] 3 (0, 0))
theorem Lit1.stable {B : Nat} {a : Int} (v : Value) (X X' : World) (h : Lit1 B a v X) (hb : Below X.heap.size X X') : Lit1 B a v X' := by
  obtain ⟨g, h1, h2, h3⟩ := h
  exact ⟨g, h1, h2, (hb.block g (Array.getElem?_eq_some_iff.1 h3).1).trans h3⟩
def LitR (B : Nat) (l : List Int) (v : Value) (X : World) : Prop := ∃ g A c, v = .slice (some ⟨g, 0, none⟩) 1 1 ∧ B ≤ g ∧ X.heap[g]? = some (.cells #[.slice A l.length c] 25 (0, 0)) ∧ X.ownsRow B 3 1 (.slice A l.length c) l.length (l.map (.int .i64))
theorem LitR.stable {B : Nat} {l : List Int} (v : Value) (X X' : World) (h : LitR B l v X) (hb : Below X.heap.size X X') : LitR B l v X' := by
  obtain ⟨g, A, c, h1, h2, h3, h4⟩ := h
  exact ⟨g, A, c, h1, h2, (hb.block g (Array.getElem?_eq_some_iff.1 h3).1).trans h3, ownsRow_below h4 hb⟩
set_option maxRecDepth 100000 in
set_option maxHeartbeats 4000000 in
theorem subsets_any (n : Nat) : ∀ (l : List Int) (A : Option Addr) (c : Nat) (w : World), n ≤ 10 → l.length ≤ 4 → l.length ≤ c → c ≤ maxLen → Rd w w.heap.size A (l.map (.int .i64)) →
    Calls Tryz.prog 68 #[.slice A l.length c, .int .i64 n] w (SubR w (subL l n)) := by
  induction n with
  | zero =>
    intro l A c w hn hl hlc hcm hr
    have hsl : subL l 0 = [[]] := by unfold subL; rfl
    rw [hsl]
    have ho := World.ownsRow_lit (base := w.heap.size) (e := 25) (size := 1) w #[.slice none 0 0] 1 (Nat.le_refl _) (by unfold maxLen; omega) rfl
    go_enter Tryz.func68, Tryz.ntmps68
    go_wp2
    go_ret
    exact ⟨[(.slice none 0 0, [])], some ⟨w.heap.size, 0, none⟩, 1, rfl, rfl, ho, (fun p hp => by
      obtain rfl : p = (.slice none 0 0, []) := by simpa using hp
      exact ⟨none, 0, rfl, World.ownsRow_nil _ _ _ _⟩), bel_alloc (Below.refl _ _) _⟩
  | succ n ih =>
    intro l A c w hn hl hlc hcm hr
    obtain ⟨j0, hj, hy0, hy1, hy2⟩ := info_parts infoSli
    have HREC := Lib.hid (fun (k : Nat) (hk : k < l.length) (AA : Option Addr) (W : World) (hr : Rd W W.heap.size AA ((l.drop (k + 1)).map (.int .i64))) => by
      have := ih (l.drop (k + 1)) AA (c - (k + 1)) W (by omega) (by rw [List.length_drop]; omega) (by rw [List.length_drop]; omega) (by omega) hr
      rw [List.length_drop] at this
      exact this)
    have HR := Lib.hid (fun W (hW : Below w.heap.size w W) => hr.below' hW)
    unfold maxLen at hcm
    clear hr ih
    obtain ⟨q, hq⟩ : ∃ q : Int, q = ((n + 1 : Nat) : Int) := ⟨_, rfl⟩
    rw [← hq]
    have hq0 : (q == 0) = false := by simp; omega
    have hq1 : q - 1 = (n : Int) := by omega
    have hq2 : 0 ≤ q := by omega
    have hq3 : q ≤ 11 := by omega
    clear hq
    go_enter Tryz.func68, Tryz.ntmps68
    go_wp2
    go_loopw [5, 6] (fun out ix wr => ∃ (k : Nat) (els : List (Value × List Int)) (B : Option Addr) (cB : Nat), k ≤ l.length ∧ ix = .int .i64 k ∧ out = .slice B els.length cB ∧ wr.ownsRow w.heap.size 25 1 (.slice B els.length cB) els.length (rowsV els) ∧ rowsL els ++ subL (l.drop k) (n + 1) = subL l (n + 1) ∧ (∀ p ∈ els, InO wr w.heap.size p) ∧ Below w.heap.size w wr) (fun _ ix _ => l.length - (intOf ix).toNat)
    case atStart => exact ⟨0, [], none, 0, Nat.zero_le _, rfl, rfl, World.ownsRow_nil _ _ _ _, rfl, (fun p hp => by simp at hp), Below.refl _ _⟩
    case round =>
      obtain ⟨k, els, B, cB, hk, rfl, rfl, hown, hls, hin, hb⟩ := hrel
      have h16 : els.length ≤ 16 := by
        have h1 := congrArg List.length hls
        have h2 := subL_len l (n + 1)
        have h3 : 2 ^ l.length ≤ 2 ^ 4 := Nat.pow_le_pow_right (by decide) hl
        rw [List.length_append] at h1
        have h4 : (rowsL els).length = els.length := by simp [rowsL]
        omega
      have HLS := Lib.hid hls
      have HIN := Lib.hid hin
      have HB := Lib.hid hb
      have HOWN := Lib.hid hown
      clear hls hin hb hown
      by_cases hlt : k < l.length
      · obtain ⟨bl, ol, rfl, hBl, hcl2⟩ := (HR.out wr HB.out).opened (by simp; omega)
        clear hcl2
        go_upto_region 7 with fail
        go_cut [7] (fun s7 wx => ∃ els2 B2 k2, s7 = .slice B2 els2.length k2 ∧ rowsL els2 = subL (l.drop (k + 1)) n ∧ wx.ownsRow wr.heap.size 25 1 (.slice B2 els2.length k2) els2.length (rowsV els2) ∧ (∀ p ∈ els2, InO wx wr.heap.size p) ∧ Below wr.heap.size wr wx)
        case first =>
          by_cases hck : c = k + 1
          · subst hck
            have hrd : Rd wr wr.heap.size (some ⟨bl, ol, none⟩) ((l.drop (k + 1)).map (.int .i64)) := by
              rw [List.drop_of_length_le (by omega)]; exact Rd.nil _ _ _
            have hC := HREC.out k hlt (some ⟨bl, ol, none⟩) wr hrd
            rw [show k + 1 - (k + 1) = 0 by omega, show l.length - (k + 1) = 0 by omega] at hC
            have HC := Lib.hid hC
            clear hC
            clear hrd
            go_wp2_with (go_at_call 68; (with_reducible refine HC.out.mono ?_); rintro e W1 ⟨els2, B2, k2, rfl, hl2, ho2, hin2, hb1⟩)
            go_meet
            exact ⟨els2, B2, k2, rfl, hl2, ho2, hin2, hb1⟩
          · have hrd : Rd wr wr.heap.size (some ⟨bl, ol + (k + 1), none⟩) ((l.drop (k + 1)).map (.int .i64)) := by
              intro j u hj
              rw [List.getElem?_map, List.getElem?_drop, ← List.getElem?_map] at hj
              obtain ⟨b, o, e, hb, hc⟩ := HR.out wr HB.out (k + 1 + j) u hj
              injection e with e
              injection e with e1 e2
              subst e1 e2
              exact ⟨bl, ol + (k + 1), rfl, hb, by rw [show ol + (k + 1) + j = ol + (k + 1 + j) by omega]; exact hc⟩
            have HC := Lib.hid (HREC.out k hlt (some ⟨bl, ol + (k + 1), none⟩) wr hrd)
            clear hrd
            go_wp2_with (go_at_call 68; (with_reducible refine HC.out.mono ?_); rintro e W1 ⟨els2, B2, k2, rfl, hl2, ho2, hin2, hb1⟩)
            go_meet
            exact ⟨els2, B2, k2, rfl, hl2, ho2, hin2, hb1⟩
        case rest =>
        obtain ⟨els2, B2, k2, rfl, hl2, ho2, hin2, hb1⟩ := hcut
        have h2l : els2.length ≤ 16 := by
          have h1 := congrArg List.length hl2
          have h2 := subL_len (l.drop (k + 1)) n
          have h3 : 2 ^ (l.drop (k + 1)).length ≤ 2 ^ 4 := Nat.pow_le_pow_right (by decide) (by rw [List.length_drop]; omega)
          have h4 : (rowsL els2).length = els2.length := by simp [rowsL]
          omega
        have hs4 : ∀ p ∈ els2, p.2.length ≤ 4 := fun p hp => by
          have h1 : p.2 ∈ subL (l.drop (k + 1)) n := by rw [← hl2]; exact List.mem_map_of_mem hp
          have := subL_each _ _ _ h1
          rw [List.length_drop] at this
          omega
        have hdk : l.drop k = l[k] :: l.drop (k + 1) := List.drop_eq_getElem_cons hlt
        obtain ⟨a, ha⟩ : ∃ a, a = l[k] := ⟨_, rfl⟩
        rw [← ha] at hdk
        have hnext : ∀ L : List (List Int), L = (rowsL els2).map (a :: ·) → rowsL els ++ L ++ subL (l.drop (k + 1)) (n + 1) = subL l (n + 1) := fun L hL => by
          rw [hL, hl2, List.append_assoc, ← HLS.out, hdk]
          conv => rhs; unfold subL
        have hae : ∀ W, Below w.heap.size w W → W.cell? ⟨bl, ol + k, none⟩ = some (.int .i64 a) ∧ bl < W.heap.size := fun W hW => by
          obtain ⟨b, o, e, hb, hc⟩ := HR.out W hW k (.int .i64 a) (by simp [hlt, ha])
          injection e with e
          injection e with e1 e2
          subst e1 e2
          exact ⟨hc, hb⟩
        have HNEXT := Lib.hid hnext
        have HAE := Lib.hid hae
        have hbw := bel_trans HB.out hb1
        have hown := ownsRow_below HOWN.out hb1
        have hin := fun p hp => (HIN.out p hp).below hb1
        have hin2' := fun p hp => (fun (h : InO wc wr.heap.size p) => (show InO wc w.heap.size p from by obtain ⟨A, c, h1, h2⟩ := h; exact ⟨A, c, h1, ownsRow_mono h2 HB.out.size⟩)) (hin2 p hp)
        have hrd2 := Rd.of_own ho2
        have hne : ∀ b, (Value.slice B els.length cB).ownBlock = some b → ∀ b' o s, B2 = some ⟨b', o, s⟩ → b ≠ b' := fun b h1 b' o s h2 e => by
          have h3 := (HOWN.out.lt b h1).2
          have h4 := (ho2.lt b' (by rw [h2]; rfl)).1
          omega
        have HS4 := Lib.hid hs4
        have HOW := Lib.hid hown
        have HI1 := Lib.hid hin
        have HI2 := Lib.hid hin2'
        have HR2 := Lib.hid hrd2
        have HNE := Lib.hid hne
        have HBW := Lib.hid hbw
        clear hl2 ho2 hin2 hb1 hdk ha hnext hae hbw hown hin hin2' hrd2 hne hs4 HLS HIN HOWN
        go_wp2
        go_loopw [5, 8] (fun out jx wx => ∃ (j : Nat) (news : List (Value × List Int)) (B : Option Addr) (cB : Nat), j ≤ els2.length ∧ jx = .int .i64 j ∧ news.length = j ∧ out = .slice B (els.length + j) cB ∧ wx.ownsRow w.heap.size 25 1 (.slice B (els.length + j) cB) (els.length + j) (rowsV els ++ rowsV news) ∧ rowsL news = ((rowsL els2).take j).map (a :: ·) ∧ (∀ p ∈ els, InO wx w.heap.size p) ∧ (∀ p ∈ news, InO wx w.heap.size p) ∧ (∀ p ∈ els2, InO wx w.heap.size p) ∧ Below w.heap.size w wx ∧ Rd wx wx.heap.size B2 (rowsV els2) ∧ (∀ b, (Value.slice B (els.length + j) cB).ownBlock = some b → ∀ b' o s, B2 = some ⟨b', o, s⟩ → b ≠ b')) (fun _ jx _ => els2.length - (intOf jx).toNat)
        case atStart =>
          exact ⟨0, [], B, cB, Nat.zero_le _, rfl, rfl, rfl, by simpa [rowsV] using HOW.out, rfl, HI1.out, (fun p hp => by simp at hp), HI2.out, HBW.out, HR2.out, HNE.out⟩
        case round =>
          obtain ⟨j, news, B3, cB3, hj2, rfl, hnl, rfl, hown, hls, hin, hinn, hin2, hb, hrd, hne⟩ := hrel
          by_cases hlt2 : j < els2.length
          · obtain ⟨e0, hbl⟩ := HAE.out wr hb
            obtain ⟨b2, o2, rfl, hb2, hc2⟩ := hrd.opened (by simp [rowsV]; omega)
            obtain ⟨Ai, ci, hv, hown1⟩ := hin2 els2[j] (List.getElem_mem hlt2)
            have e1 := hc2 j els2[j].1 (by simp [rowsV, hlt2])
            rw [hv] at e1
            have hs := HS4.out els2[j] (List.getElem_mem hlt2)
            have htk : (rowsL els2).take (j + 1) = (rowsL els2).take j ++ [els2[j].2] := by
              rw [List.take_succ_eq_append_getElem (by simp [rowsL, hlt2])]
              simp [rowsL]
            obtain ⟨s, hss⟩ : ∃ s, s = els2[j].2 := ⟨_, rfl⟩
            rw [← hss] at e1 hown1 hs htk
            have HHR := Lib.hid (Rd.of_own hown1)
            have HLS := Lib.hid hls
            have HTK := Lib.hid htk
            have HOWN := Lib.hid hown
            have HI1 := Lib.hid hin
            have HI2 := Lib.hid hin2
            have HIN := Lib.hid hinn
            have HB2 := Lib.hid hb
            have HRD := Lib.hid hrd
            have HNE2 := Lib.hid hne
            clear hls htk hown hin hin2 hinn hb hrd hne hv hown1 hss hc2 HBW HOW HR2 HNE
            go_wp2
            (refine wp_region_flow [false, false, false, false, false, true, false, false, false, false, true, true] [⟨5, [], Lit1 wr.heap.size a, false⟩, ⟨10, [5], RowN wr.heap.size (a :: s), false⟩, ⟨11, [10], LitR wr.heap.size (a :: s), false⟩] (by kernel_rfl) (by kernel_rfl) (by kernel_rfl) (by kernel_rfl) ?_; simp only [pick, List.length_cons, List.length_nil, List.drop_succ_cons, List.drop_zero, Nat.zero_add, Nat.reduceAdd]; apply Exists.intro; refine ⟨fun X hX => ?_, ?_⟩; (focus (obtain ⟨hcX, hfX⟩ := bcell hX; have hgX := regcell hX; have hsX := hX.size; (try simp only [World.size_alloc] at hsX); (repeat (go_big_quiet_step ((first | fail)))); exact wpQuiet_nil rfl)); simp only [wpND, told, toldAll, List.contains_cons, List.contains_nil, List.mem_cons, List.not_mem_nil, forall_eq_or_imp, false_implies, implies_true, and_true, Nat.reduceBEq, BEq.rfl, beq_self_eq_true, Bool.or_false, Bool.false_or, Bool.true_or, Bool.or_true, Bool.false_eq_true, if_true, if_false, true_implies, dstAt, List.getElem?_toArray, List.getElem?_cons_succ, List.getElem?_cons_zero, Option.some.injEq, forall_eq', Option.bind_some, Act.put, List.setIfInBounds_toArray, List.set_cons_succ, List.set_cons_zero])
            refine ⟨Lit1.stable, fun X hX => ?_, fun v5 => ⟨RowN.stable, fun X hX hf => ?_, fun v10 => ⟨LitR.stable, fun X hX hf => ?_, fun v11 X hX hf => ?_⟩⟩⟩
            · exact leaves_alloc' (v := .slice (some ⟨X.heap.size, 0, none⟩) 1 1) (obj := .cells #[.int .i64 a] 3) (by kernel_rfl) ⟨X.heap.size, rfl, hX.size, heap_alloc_new _ _⟩
            · obtain ⟨g, rfl, hg1, hg2⟩ := hf
              exact leaves_append_lit _ _ rfl wr.heap.size g a rfl hg2 hg1 hX.size Ai ci s rfl (HHR.out.below' hX) (by omega)
            · obtain ⟨A', c', rfl, ho⟩ := hf
              exact leaves_alloc' (v := .slice (some ⟨X.heap.size, 0, none⟩) 1 1) (obj := .cells #[.slice A' (s.length + 1) c'] 25) (by kernel_rfl) ⟨X.heap.size, A', c', rfl, hX.size, heap_alloc_new _ _, ho.alloc _⟩
            · obtain ⟨⟨g, A', c', rfl, hg1, hg2, hor⟩, _⟩ := hf
              have hownX := ownsRow_below HOWN.out hX
              have hszX := (bel_trans HB2.out hX).size
              go_wp2_with (at_builtin; refine wpList_push3 X rfl (.tmp 31) (.tmp 42) 106 rfl w.heap.size 25 j0 _ 1 24 [.slice A' (s.length + 1) c'] Tryz.underlying106 hj hy0 hy1 hy2 rfl (by decide) (.slice B3 (els.length + j) cB3) _ _ rfl hownX g rfl hg2 rfl (by intro u hu; simp at hu; subst hu; rfl) (by unfold maxLen; omega) (by omega) hszX ?_; intro v5 V5 ow5 gr5 ob5 kc5 be5; obtain ⟨A5, c5, rfl, _⟩ := ownsRow_form ow5)
              have hbX := bel_trans HB2.out hX
              have hrX := HRD.out.below' hX
              have hl3 : (news ++ [((.slice A' (s.length + 1) c' : Value), a :: s)]).length = j + 1 := by simp [hnl]
              go_roundw
              case rel =>
                refine ⟨j + 1, news ++ [((.slice A' (s.length + 1) c' : Value), a :: s)], A5, c5, by omega, by go_num, hl3, rfl, ?_, ?_, fun p hp => ((HI1.out p hp).below hX).kept hownX (by decide) gr5, ?_, fun p hp => ((HI2.out p hp).below hX).kept hownX (by decide) gr5, hbX.trans be5, ?_, ?_⟩
                · have e : rowsV els ++ rowsV (news ++ [((.slice A' (s.length + 1) c' : Value), a :: s)]) = rowsV els ++ rowsV news ++ [.slice A' (s.length + 1) c'] := by simp [rowsV]
                  rw [e]
                  exact ow5
                · rw [HTK.out, List.map_append, ← HLS.out]; simp [rowsL]
                · intro p hp
                  rcases List.mem_append.1 hp with hp | hp
                  · exact ((HIN.out p hp).below hX).kept hownX (by decide) gr5
                  · obtain rfl : p = ((.slice A' (s.length + 1) c' : Value), a :: s) := by simpa using hp
                    exact InO.kept (p := ((.slice A' (s.length + 1) c' : Value), a :: s)) ⟨A', c', rfl, ownsRow_mono hor HB2.out.size⟩ hownX (by decide) gr5
                · intro i u hi
                  obtain ⟨b', o', e, hb', hc'⟩ := hrX i u hi
                  exact ⟨b', o', e, Nat.lt_of_lt_of_le hb' be5.size, (kc5 b' (o' + i) hb' (fun h => absurd rfl (HNE2.out b' h b' o' none e))).trans hc'⟩
                · intro b hb b' o' s' e
                  rcases ob5 with h | h
                  · exact HNE2.out b (h.symm.trans hb) b' o' s' e
                  · have h1 := h b hb
                    have h2 := hX.size
                    injection e with e
                    injection e with e1
                    omega
              case measure => simp [intOf]; omega
          · obtain rfl : j = els2.length := by omega
            have htk : (rowsL els2).take els2.length = rowsL els2 := by
              rw [List.take_of_length_le (by simp [rowsL])]
            rw [htk] at hls
            have hl3 : els.length + els2.length = (els ++ news).length := by simp [hnl]
            have hfin := HNEXT.out _ hls
            have hrv : rowsV els ++ rowsV news = rowsV (els ++ news) := by simp [rowsV]
            rw [hrv] at hown
            rw [hl3] at hown ⊢
            have HOWN := Lib.hid hown
            have HFIN := Lib.hid hfin
            clear hls htk hown hfin hrv hrd hne hin2
            have HI1 := Lib.hid hin
            have HIN := Lib.hid hinn
            have HB3 := Lib.hid hb
            clear hin hinn hb
            go_wp2
            go_roundw
            case rel => exact ⟨k + 1, els ++ news, B3, cB3, by omega, by go_num, rfl, HOWN.out, by rw [← HFIN.out]; simp [rowsL], (fun p hp => (List.mem_append.1 hp).elim (HI1.out p) (HIN.out p)), HB3.out⟩
            case measure => simp [intOf]; omega
      · obtain rfl : k = l.length := by omega
        have hls := HLS.out
        rw [List.drop_of_length_le (Nat.le_refl _), show subL [] (n + 1) = [] by unfold subL; rfl, List.append_nil] at hls
        go_wp2
        go_ret
        exact ⟨els, B, cB, rfl, hls, HOWN.out, HIN.out, HB.out⟩
end Go.Proofs.YtanicpgmbhfipaaGreatDoor
