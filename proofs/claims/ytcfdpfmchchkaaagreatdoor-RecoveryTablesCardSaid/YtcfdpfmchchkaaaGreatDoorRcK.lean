/-
  Chapter 22: undo, over a taker: the walk.
  Chapter 22, plain: undoing over a function that takes, and the plan.
  Chapter 22, plain: the plan of the reference.
  Chapter 22: in which order updates are undone.
  Chapter 22: in which order updates are undone: the walk.
-/
import Derived.Test.YtcfdpfmchchkaaaGreatDoorRcJ
import Derived.Test.YtcfdpfmchchkaaaGreatDoorRcA
namespace Go.Proofs.YtcfdpfmchchkaaaGreatDoor
set_option linter.unusedVariables false
set_option linter.unusedSimpArgs false
set_option maxRecDepth 4000
open Go.RowKit Go.Sort Go.Shelf
structure UndS (σ : Type) where
 j : Nat
 ls : List (Nat × Lsr)
 s : σ
def TkOk {σ : Type} (tk : Taker σ) : Prop := ∀ s x r, (tk s x r).2.1.u = x.u ∧ (tk s x r).2.1.i = x.i
def rcd0 : Rcd := ⟨0, ⟨0, 0, 0, 0, 0, false, op0, ⟨#[]⟩⟩⟩
theorem bxsS_eq {ls : List (Nat × Lsr)} (hnd : (ls.map Prod.fst).Nodup) {m : Nat × Lsr} (hm : m ∈ ls) (v : Int) : bxsS ls m.1 2 v = setB ls m.1 ⟨m.2.i, m.2.l, v⟩ := by
 unfold bxsS setB
 apply List.map_congr_left
 intro x hx
 by_cases e : x.1 = m.1
 · rw [if_pos e, if_pos e]
   have : x = m := by
    have key : ∀ (l : List (Nat × Lsr)), (l.map Prod.fst).Nodup → x ∈ l → m ∈ l → x = m := by
     intro l
     induction l with
     | nil => intro _ h; cases h
     | cons a l ih =>
      intro h h1 h2
      rw [List.map_cons, List.nodup_cons] at h
      rcases List.mem_cons.1 h1 with h1 | h1'
      · rcases List.mem_cons.1 h2 with h2 | h2'
        · rw [h1, h2]
        · exact absurd (by rw [← h1, e]; exact List.mem_map_of_mem h2') h.1
      · rcases List.mem_cons.1 h2 with h2 | h2'
        · exact absurd (by rw [← h2, ← e]; exact List.mem_map_of_mem h1') h.1
        · exact ih h.2 h1' h2'
    exact key ls hnd hx hm
   rw [this]; rfl
 · rw [if_neg e, if_neg e]
theorem setB_mem {ls : List (Nat × Lsr)} {m : Nat × Lsr} (hm : m ∈ ls) (x : Lsr) : (m.1, x) ∈ setB ls m.1 x := by
 unfold setB
 exact List.mem_map.2 ⟨m, hm, by rw [if_pos rfl]⟩
theorem setB_setB (ls : List (Nat × Lsr)) (b : Nat) (x y : Lsr) : setB (setB ls b x) b y = setB ls b y := by
 unfold setB
 rw [List.map_map]
 apply List.map_congr_left
 intro z _
 show (if (if z.1 = b then (z.1, x) else z).1 = b then ((if z.1 = b then (z.1, x) else z).1, y) else (if z.1 = b then (z.1, x) else z)) = if z.1 = b then (z.1, y) else z
 by_cases e : z.1 = b
 · rw [if_pos e, if_pos (show (z.1, x).1 = b from e), if_pos e]
 · rw [if_neg e, if_neg e]
theorem setB_all {ls : List (Nat × Lsr)} {b : Nat} {x : Lsr} {p : Lsr → Prop} (h : ∀ y ∈ ls, p y.2) (hx : p x) : ∀ y ∈ setB ls b x, p y.2 := fun y hy => by
 unfold setB at hy
 obtain ⟨z, hz, rfl⟩ := List.mem_map.1 hy
 split
 · exact hx
 · exact h z hz
theorem nxt_nn {l : List Rcd} {i : Nat} (hv : VldH l i) {k : Nat} (hk : k < i) : 0 ≤ nxtU (l[k]'(by have := hv.1; omega)).e := by
 have := entE_p (hv.e0 hk).2.2
 unfold nxtU
 split <;> omega
theorem undo_any {σ τ : Type} (π : τ → σ) (cbE : τ → Ent) (tk : Taker σ) (htk : TkOk tk) (f : FuncId) (cap : List Value) (l : List Rcd) (B : Option Addr) (d : Nat) (B0 : Nat) (A : Option Addr) (c : Nat) (ls0 : List (Nat × Lsr)) (s0 : τ) (M0 : List Nat) (w : World)
 (Kq : Nat → τ → Prop) (hK0 : Kq 0 s0)
 (hfc : ∀ (vs : Array Value) (W : World), (callFunc f vs).run Tryz.prog W = .ok (.enter f vs) W) (hB0 : B0 ≤ w.heap.size) (hM : ∀ b ∈ M0, B0 ≤ b) (hq : Rd w B0 B (l.flatMap rcdL)) (hv : VldH l l.length) (hl : l.length ≤ 1000) (hn : ls0.length ≤ 1000) (hu0 : ∀ x ∈ ls0, 0 ≤ x.2.u)
 (hS0 : St M0 w w [bxsE ls0, cbE s0, .row (.slice A ls0.length c) ls0.length 233 1 (ls0.map lsrP)])
 (hcb : ∀ (j : Nat) (X : World) (ls : List (Nat × Lsr)) (s : τ) (m : Nat × Lsr) (r : Rcd), j < 101 → Kq j s → KeptL M0 w X → St (domsL X [bxsE ls, cbE s]) X X [bxsE ls, cbE s] → m ∈ ls → r ∈ l → isOpE r.e = true → r.e.t = m.2.i → m.2.u = nxtU r.e →
  Calls Tryz.prog f ([lsrP m, .int .i64 r.l, entV r.e] ++ cap).toArray X fun e X' => ∃ p : List (Nat × Lsr) × τ, e = .returned (.int .i64 (tk (π s) m.2 r).2.2) ∧ (((tk (π s) m.2 r).2.2 = 0 → p.1 = setB ls m.1 (tk (π s) m.2 r).2.1 ∧ π p.2 = (tk (π s) m.2 r).1 ∧ Kq (j + 1) p.2) ∧ p.1.map Prod.fst = ls.map Prod.fst) ∧ St (domsL X [bxsE ls, cbE s]) X X' [bxsE p.1, cbE p.2]) :
 Calls Tryz.prog 135 #[.slice B l.length d, .slice A ls0.length c, .func (.func f) #[] cap.toArray] w fun e w' => ∃ p : List (Nat × Lsr) × τ, e = .returned (.int .i64 (undG l tk 101 ls0 (π s0)).2.2) ∧ (((undG l tk 101 ls0 (π s0)).2.2 = 0 → p.1 = (undG l tk 101 ls0 (π s0)).1 ∧ π p.2 = (undG l tk 101 ls0 (π s0)).2.1) ∧ p.1.map Prod.fst = ls0.map Prod.fst) ∧ St M0 w w' [bxsE p.1, cbE p.2, .row (.slice A ls0.length c) ls0.length 233 1 (ls0.map lsrP)] := by
 have hsl : SrtK Rcd.l l := by have := hv.srt; rwa [List.take_length] at this
 obtain ⟨U, hU⟩ : ∃ U, U = undG l tk 101 ls0 (π s0) := ⟨_, rfl⟩
 rw [← hU]
 refine st_enter (N := 84) Tryz.func135 rfl rfl rfl (fun a0 h0 => ?_)
 have S0 := hS0
 refine st_seq (st_reg ?_)
 refine ma h0 rfl rfl fun a1 h1 => ?_
 refine st_nil (go_then (st_seq (st_seq (st_reg ?_))))
 refine mv h1 rfl rfl fun a2 h2 => ?_
 refine st_nil (go_then (wp_block ?_))
 refine st_loop h2 S0 [0, 1, 2] (fun (q : UndS τ) => [(11, .int .i64 (q.j : Nat))]) (fun (q : UndS τ) => q.j ≤ 101 ∧ U = undG l tk (101 - q.j) q.ls (π q.s) ∧ q.ls.map Prod.fst = ls0.map Prod.fst ∧ (∀ x ∈ q.ls, 0 ≤ x.2.u) ∧ Kq q.j q.s) (fun q L => [bxsE q.ls, cbE q.s, .row (.slice A ls0.length c) ls0.length 233 1 (ls0.map lsrP)]) (fun (q : UndS τ) => 101 - q.j) (⟨0, ls0, s0⟩) (⟨Nat.zero_le _, hU, rfl, hu0, hK0⟩) ⟨rfl, rfl, rfl, rfl, trivial⟩ (S0) ?_
 intro q a3 X3 hF0 h3 S3
 refine st_seq (st_reg ?_)
 refine sv h3 (ex_lss (h3.ev rfl) (h3.ev rfl)) fun a4 h4 => ?_
 refine st_nil (go_then (st_seq ?_))
 refine st_if (h4.ev rfl) (fun hc0 => ?_) (fun hc0 => ?_)
 ·
  have hlt : q.j < 101 := by have := of_decide_eq_true hc0; omega
  obtain ⟨hj1, hun, hfs, hu, hKq⟩ := hF0
  obtain ⟨g, hg⟩ : ∃ g, 101 - q.j = g + 1 := ⟨100 - q.j, by omega⟩
  rw [hg, undG] at hun
  have hptr := ptr_fst hfs
  refine wp_skip (go_then (st_seq (wp_block (st_seq (st_reg ?_)))))
  refine mv h4 rfl rfl fun a5 h5 => ?_
  refine sv h5 (ex_build (zs := [.int .i64 0, .int .i64 0, .int .i64 0]) (pl := [(0, 1), (1, 1), (2, 1)]) (by kernel_rfl) (by kernel_rfl) (h5.evs2 rfl) rfl rfl) fun a6 h6 => ?_
  refine nb h6 rfl rfl S3 fun b15 a7 X7 gb15 h7 S7 => ?_
  refine sl_new h7 (wn rfl) (f := fun b => .slice (some ⟨b, 0, none⟩) 1 1) (ex_bslice Tryz.underlying209 (by kernel_rfl) (by kernel_rfl) (h7.evs2 rfl) rfl rfl rfl (by decide) (by decide)) rfl rfl S7 fun b16 a8 X8 gb16 h8 S8 => ?_
  refine sl_appKeep (z := .pointer none) (sz := 1) (bytes := 8) h8 (wn rfl) ⟨rfl, rfl⟩ rfl Tryz.underlying209 (by kernel_rfl) rfl rfl (h8.ev rfl) (h8.ev rfl) S8 (i := 4) rfl (S8.boxRd (i := 0) rfl) rfl (List.all_eq_true.1 rfl) ⟨by omega, by decide⟩ fun A17 c17 a9 X9 h9 S9 R17 => ?_
  obtain ⟨z, zs, hzz, hcase⟩ := mxL_app (b := b15) hu
  have hmp : (z :: zs).map lsrP = ls0.map lsrP ++ [.pointer (some ⟨b15, 0, none⟩)] := by rw [← hzz, List.map_append, hptr]; rfl
  have hml9 : (z :: zs).length = ls0.length + 1 := by have := congrArg List.length hmp; rw [List.length_map, List.length_append, List.length_map] at this; exact this
  have hbx : ∀ x ∈ z :: zs, Box X9 x.1 (lsrC x.2) 273 := fun x hx => by
   rw [← hzz] at hx
   rcases List.mem_append.1 hx with hx | hx
   · exact (S9.at_ (i := 2) rfl).1 x hx
   · rw [List.mem_singleton.1 hx]; exact S9.at_ (i := 1) rfl
  refine sl_bel h9 (wn rfl) (ex_call (fun _ _ => by kernel_rfl) (h9.evs rfl) rfl) rfl rfl S9 (hml9 ▸ MaxFunc_any z zs A17 c17 _ (hmp ▸ R17) hbx (by have : (z :: zs).length = zs.length + 1 := rfl; omega)) fun a10 X10 h10 S10 => ?_
  obtain ⟨m, hmq⟩ : ∃ m, m = zs.foldl mxS z := ⟨_, rfl⟩
  rw [← hmq] at h10 hcase
  have hbm : Box X10 m.1 (lsrC m.2) 273 := by
   rcases hcase with ⟨_, h9⟩ | ⟨m', hm', _, h9⟩
   · rw [h9]; exact S10.at_ (i := 1) rfl
   · rw [h9]; exact (S10.at_ (i := 2) rfl).1 _ hm'
  refine ma h10 rfl rfl fun a11 h11 => ?_
  refine st_nil (go_then (st_seq (st_seq (st_reg ?_))))
  refine mv h11 rfl rfl fun a12 h12 => ?_
  refine sv h12 (ex_nilck (h12.ev rfl)) fun a13 h13 => ?_
  refine sv h13 (ex_field (off := 2) (by kernel_rfl) (h13.ev rfl) rfl) fun a14 h14 => ?_
  refine sv h14 (ex_load (by kernel_rfl) (h14.ev rfl) (Box.cells hbm 2)) fun a15 h15 => ?_
  refine sv h15 (ex_eql (h15.ev rfl) (h15.ev rfl)) fun a16 h16 => ?_
  refine st_nil (go_then ?_)
  refine st_if (h16.ev rfl) (fun hc1 => ?_) (fun hc1 => ?_)
  ·
   have h0 : m.2.u = 0 := by simpa using hc1
   have hfin : U = (q.ls, π q.s, 0) := by
    rcases hcase with ⟨h8, h9⟩ | ⟨m', hm', h8, h9⟩
    · rw [hun, h8]
    · subst h9
      rw [hun, h8]; simp only; rw [if_pos h0]
   refine st_seq (st_reg ?_)
   refine ma h16 rfl rfl fun a17 h17 => ?_
   refine st_nil (go_then (wp_ret (ret_then (ret_block (ret_then (ret_then (ret_block (ret_then ?_))))))))
   refine fin1 h17 rfl rfl ?_
   exact ⟨(q.ls, q.s), by rw [hfin], ⟨fun _ => by rw [hfin]; exact ⟨rfl, rfl⟩, hfs⟩, (S10.sub (.cons _ (.cons _ (.cons_cons _ (.cons_cons _ (.cons_cons _ .slnil))))))⟩
  ·
   have h0 : m.2.u ≠ 0 := by simpa using hc1
   obtain ⟨hml, hmx⟩ : m ∈ q.ls ∧ mxL q.ls = some m := by
    rcases hcase with ⟨h8, h9⟩ | ⟨m', hm', h8, h9⟩
    · exact absurd (by rw [h9]; rfl) h0
    · rw [h9]; exact ⟨hm', h8⟩
   rw [hmx] at hun
   simp only at hun
   rw [if_neg h0] at hun
   refine wp_skip (go_then (st_seq (st_reg ?_)))
   refine mv h16 rfl rfl fun a18 h18 => ?_
   refine mv h18 rfl rfl fun a19 h19 => ?_
   refine sv h19 (ex_nilck (h19.ev rfl)) fun a20 h20 => ?_
   refine sv h20 (ex_field (off := 2) (by kernel_rfl) (h20.ev rfl) rfl) fun a21 h21 => ?_
   refine sv h21 (ex_load (by kernel_rfl) (h21.ev rfl) (Box.cells hbm 2)) fun a22 h22 => ?_
   refine sl_bel h22 (wn rfl) (ex_call (fun _ _ => by kernel_rfl) (h22.evs rfl) rfl) rfl rfl S10 (findA_any l hsl B d m.2.u _ ((S10.rdBase hM hB0 hq).mono (Nat.le_trans hB0 S10.size)) hl) fun a23 X23 h23 S23 => ?_
   refine ma h23 rfl rfl fun a24 h24 => ?_
   refine st_nil (go_then (st_seq (st_seq ?_)))
   apply dr_flow h24 [false, false, false, false, false, false, false, false, false, false, false, false, false, false, false, false, false, false, false] _ (by kernel_rfl)
   case h =>
    refine qv h24 (fun X hX => ex_move (h24.ev rfl)) fun a25 h25 => ?_
    refine qv h25 (fun X hX => ex_pnil Tryz.underlying219 (by kernel_rfl) (h25.ev rfl) (h25.ev rfl)) fun a26 h26 => ?_
    refine qv h26 (fun X hX => ex_move (h26.ev rfl)) fun a27 h27 => ?_
    apply sq_or (x := !isOpE ((fndI l m.2.u).getD rcd0).e) h27 32 rfl 6 38
    case hf =>
     intro gc32
     obtain ⟨b', o', rfl, qk, q1, q2, q3⟩ := fndA_get hsl hq gc32
     generalize bsN Rcd.l l m.2.u = k at qk q1 q2 q3
     refine sq_val h27 (wanted_yes h27 _ rfl rfl rfl gc32) rfl rfl (fun X hX => (as_val (v' := .pointer (some ⟨b', o' + k * 14 + 1, none⟩)) (congrArg Value.pointer q3) (ex_move (h27.ev rfl)))) fun a28 h28 => ?_
     refine sq_val h28 (wanted_yes h28 _ rfl rfl rfl gc32) rfl rfl (fun X hX => (ex_nilck (h28.ev rfl))) fun a29 h29 => ?_
     refine sq_val (v := entV l[k].e) h29 (wanted_yes h29 _ rfl rfl rfl gc32) rfl rfl (fun X hX => (ex_loads (by kernel_rfl) (by kernel_rfl) (h29.ev rfl) (entAt ((S23.grow hX).rdBase hM hB0 hq) qk))) fun a30 h30 => ?_
     refine sq_bel h30 (wanted_yes h30 _ rfl rfl rfl gc32) rfl rfl (fun X => (ex_call (fun _ _ => by kernel_rfl) (h30.evs rfl) rfl)) (fun X hX => isop_any _ _) fun a31 h31 => ?_
     refine sq_val h31 (wanted_yes h31 _ rfl rfl rfl gc32) rfl rfl (fun X hX => (as_val (v' := .bool (!isOpE ((fndI l m.2.u).getD rcd0).e)) (by rw [q2]; rfl) (ex_not (h31.ev rfl)))) fun a32 h32 => ?_
     refine qv h32 (fun X hX => ex_pick_f (h32.ev rfl) gc32 (h32.ev rfl)) fun a33 h33 => ?_
     exact sq_nil (h33.mid (m := [(_, _), (_, _), (_, _), (_, _), (_, _)]) rfl)
    case ht =>
     intro gc32
     refine qo h27 rfl rfl rfl gc32 rfl rfl fun a34 h34 => ?_
     refine qo h34 rfl rfl rfl gc32 rfl rfl fun a35 h35 => ?_
     refine qo h35 rfl rfl rfl gc32 rfl rfl fun a36 h36 => ?_
     refine qo h36 rfl rfl rfl gc32 rfl rfl fun a37 h37 => ?_
     refine qo h37 rfl rfl rfl gc32 rfl rfl fun a38 h38 => ?_
     refine qv h38 (fun X hX => ex_pick_t (h38.ev rfl) gc32 (h38.ev rfl)) fun a39 h39 => ?_
     exact sq_nil (h39.mid (m := [(_, _), (_, _), (_, _), (_, _), (_, _)]) rfl)
    case h =>
     intro a40 h40
     refine qv h40 (fun X hX => ex_move (h40.ev rfl)) fun a41 h41 => ?_
     apply sq_grpF h41 39 rfl 9 48
     case ht =>
      intro gc39
      refine qo h41 rfl rfl rfl gc39 rfl rfl fun a42 h42 => ?_
      refine qo h42 rfl rfl rfl gc39 rfl rfl fun a43 h43 => ?_
      refine qo h43 rfl rfl rfl gc39 rfl rfl fun a44 h44 => ?_
      refine qo h44 rfl rfl rfl gc39 rfl rfl fun a45 h45 => ?_
      refine qo h45 rfl rfl rfl gc39 rfl rfl fun a46 h46 => ?_
      refine qo h46 rfl rfl rfl gc39 rfl rfl fun a47 h47 => ?_
      refine qo h47 rfl rfl rfl gc39 rfl rfl fun a48 h48 => ?_
      refine qo h48 rfl rfl rfl gc39 rfl rfl fun a49 h49 => ?_
      refine qo h49 rfl rfl rfl gc39 rfl rfl fun a50 h50 => ?_
      exact sq_nil ⟨_, h50.mid (m := [(_, _), (_, _), (_, _), (_, _), (_, _), (_, _), (_, _), (_, _)]) rfl⟩
     case hf =>
      intro gc39
      obtain ⟨b', o', rfl, qk, q1, q2, q3⟩ := fndA_get hsl hq (Bool.or_eq_false_iff.1 gc39).1
      generalize bsN Rcd.l l m.2.u = k at qk q1 q2 q3
      refine sq_val h41 (wanted_yes h41 _ rfl rfl rfl gc39) rfl rfl (fun X hX => (as_val (v' := .pointer (some ⟨b', o' + k * 14 + 1, none⟩)) (congrArg Value.pointer q3) (ex_move (h41.ev rfl)))) fun a51 h51 => ?_
      refine sq_val h51 (wanted_yes h51 _ rfl rfl rfl gc39) rfl rfl (fun X hX => (ex_nilck (h51.ev rfl))) fun a52 h52 => ?_
      refine sq_val h52 (wanted_yes h52 _ rfl rfl rfl gc39) rfl rfl (fun X hX => (ex_field (off := 1) (by kernel_rfl) (h52.ev rfl) rfl)) fun a53 h53 => ?_
      refine sq_val h53 (wanted_yes h53 _ rfl rfl rfl gc39) rfl rfl (fun X hX => (ex_load (by kernel_rfl) (h53.ev rfl) ((entAt ((S23.grow hX).rdBase hM hB0 hq) qk) 1 _ rfl))) fun a54 h54 => ?_
      refine sq_val h54 (wanted_yes h54 _ rfl rfl rfl gc39) rfl rfl (fun X hX => (ex_move (h54.ev rfl))) fun a55 h55 => ?_
      refine sq_val h55 (wanted_yes h55 _ rfl rfl rfl gc39) rfl rfl (fun X hX => (ex_nilck (h55.ev rfl))) fun a56 h56 => ?_
      refine sq_val h56 (wanted_yes h56 _ rfl rfl rfl gc39) rfl rfl (fun X hX => (ex_field (off := 0) (by kernel_rfl) (h56.ev rfl) rfl)) fun a57 h57 => ?_
      refine sq_val h57 (wanted_yes h57 _ rfl rfl rfl gc39) rfl rfl (fun X hX => (ex_load (by kernel_rfl) (h57.ev rfl) (Box.cells (((S23.grow hX).at_ (i := 2) rfl).1 _ hml) 0))) fun a58 h58 => ?_
      refine sq_val h58 (wanted_yes h58 _ rfl rfl rfl gc39) rfl rfl (fun X hX => (as_val (v' := .bool (((fndI l m.2.u).getD rcd0).e.t != m.2.i)) (by rw [q2]; rfl) (ex_neq (h58.ev rfl) (h58.ev rfl)))) fun a59 h59 => ?_
      exact sq_nil (h59.mid (m := [(_, _), (_, _), (_, _), (_, _), (_, _), (_, _), (_, _), (_, _)]) rfl)
     case h =>
      intro v60 a60 hg48 h60
      refine sq_nil ?_
      refine nd_end fun X61 hX61 hΦ61 => ?_
      have S61 := S23.grow hX61
      refine sv h60 (ex_pick_or (h60.ev rfl) (h60.ev rfl) (h60.ev rfl) hg48) fun a62 h62 => ?_
      refine st_nil (go_then ?_)
      refine st_if (h62.ev rfl) (fun hc2 => ?_) (fun hc2 => ?_)
      ·
       have hfin : U = (q.ls, π q.s, 6) := by
        rw [hun]
        cases hf : fndI l m.2.u with
        | none => rfl
        | some r =>
         simp only
         rw [if_neg]
         rintro ⟨u1, u2⟩
         rw [hf] at hc2
         cases hN : (fndA B l m.2.u).isNone with
         | true => rw [fndA_not hsl hq hN] at hf; cases hf
         | false =>
          rw [hN, Option.getD_some, u1, u2] at hc2
          simp at hc2
       refine st_seq (st_reg ?_)
       refine ma h62 rfl rfl fun a63 h63 => ?_
       refine st_nil (go_then (wp_ret (ret_then (ret_block (ret_then (ret_then (ret_block (ret_then ?_))))))))
       refine fin1 h63 rfl rfl ?_
       exact ⟨(q.ls, q.s), by rw [hfin], ⟨fun h => absurd h (by rw [hfin]; exact (by decide : ¬ (6 : Int) = 0)), hfs⟩, (S61.sub (.cons _ (.cons _ (.cons_cons _ (.cons_cons _ (.cons_cons _ .slnil))))))⟩
      ·
       obtain ⟨hc2a, hc2c⟩ := Bool.or_eq_false_iff.1 hc2
       obtain ⟨hc2a, hc2b⟩ := Bool.or_eq_false_iff.1 hc2a
       obtain ⟨b', o', rfl, qk, q1, q2, q3⟩ := fndA_get hsl hq hc2a
       rw [q3] at h62
       generalize bsN Rcd.l l m.2.u = k at qk q1 q2 q3 h62
       rw [q2, Option.getD_some] at hc2b hc2c
       have ho : isOpE l[k].e = true := by simpa using hc2b
       have hto : l[k].e.t = m.2.i := by simpa using hc2c
       rw [q2] at hun
       simp only at hun
       rw [if_pos ⟨ho, hto⟩] at hun
       have hnn := nxt_nn hv qk
       have hnd := (S61.at_ (i := 2) rfl).2
       refine wp_skip (go_then (st_seq (st_reg ?_)))
       refine mv h62 rfl rfl fun a64 h64 => ?_
       refine sv h64 (ex_nilck (h64.ev rfl)) fun a65 h65 => ?_
       refine sv h65 (ex_field (off := 2) (by kernel_rfl) (h65.ev rfl) rfl) fun a66 h66 => ?_
       refine sv h66 (ex_load (by kernel_rfl) (h66.ev rfl) (Box.cells ((S61.at_ (i := 2) rfl).1 _ hml) 2)) fun a67 h67 => ?_
       refine ma h67 rfl rfl fun a68 h68 => ?_
       refine nsr ?_
       refine mv h68 rfl rfl fun a69 h69 => ?_
       refine mv h69 rfl rfl fun a70 h70 => ?_
       refine sv h70 (ex_nilck (h70.ev rfl)) fun a71 h71 => ?_
       refine sv h71 (ex_field (off := 2) (by kernel_rfl) (h71.ev rfl) rfl) fun a72 h72 => ?_
       refine sv h72 (ex_load (by kernel_rfl) (h72.ev rfl) ((entAt (S61.rdBase hM hB0 hq) qk) 2 _ rfl)) fun a73 h73 => ?_
       refine sv h73 (ex_nilck (h73.ev rfl)) fun a74 h74 => ?_
       refine sv h74 (ex_field (off := 2) (by kernel_rfl) (h74.ev rfl) rfl) fun a75 h75 => ?_
       refine sl_storeB (wn rfl) ⟨rfl, rfl⟩ (h75.ev rfl) (h75.ev rfl) (by kernel_rfl) S61 (i := 2) rfl hml (by decide) fun X76 S76 => ?_
       rw [show bxsS q.ls m.1 (0 + 2) l[k].e.p = _ from bxsS_eq hnd hml l[k].e.p] at S76
       refine st_nil (go_then (st_seq (st_seq (st_reg ?_))))
       refine mv h75 rfl rfl fun a77 h77 => ?_
       refine sv h77 (ex_nilck (h77.ev rfl)) fun a78 h78 => ?_
       refine sv h78 (ex_field (off := 0) (by kernel_rfl) (h78.ev rfl) rfl) fun a79 h79 => ?_
       refine sv h79 (ex_load (by kernel_rfl) (h79.ev rfl) ((entAt (S76.rdBase hM hB0 hq) qk) 0 _ rfl)) fun a80 h80 => ?_
       refine sv h80 (ex_eql (h80.ev rfl) (h80.ev rfl)) fun a81 h81 => ?_
       refine st_nil (go_then ?_)
       refine st_if (h81.ev rfl) (fun hc3 => ?_) (fun hc3 => ?_)
       ·
        have hnx : nxtU l[k].e = l[k].e.x := by unfold nxtU; rw [if_pos (by simpa using hc3)]
        refine st_reg ?_
        refine mv h81 rfl rfl fun a82 h82 => ?_
        refine mv h82 rfl rfl fun a83 h83 => ?_
        refine sv h83 (ex_nilck (h83.ev rfl)) fun a84 h84 => ?_
        refine sv h84 (ex_field (off := 3) (by kernel_rfl) (h84.ev rfl) rfl) fun a85 h85 => ?_
        refine sv h85 (ex_load (by kernel_rfl) (h85.ev rfl) ((entAt (S76.rdBase hM hB0 hq) qk) 3 _ rfl)) fun a86 h86 => ?_
        refine sv h86 (ex_nilck (h86.ev rfl)) fun a87 h87 => ?_
        refine sv h87 (ex_field (off := 2) (by kernel_rfl) (h87.ev rfl) rfl) fun a88 h88 => ?_
        refine sl_storeB (wn rfl) ⟨rfl, rfl⟩ (h88.ev rfl) (h88.ev rfl) (by kernel_rfl) S76 (i := 2) rfl (setB_mem hml _) (by decide) fun X89 S89 => ?_
        rw [show bxsS (setB q.ls m.1 ⟨m.2.i, m.2.l, l[k].e.p⟩) m.1 (0 + 2) l[k].e.x = setB q.ls m.1 ⟨m.2.i, m.2.l, l[k].e.x⟩ from (bxsS_eq (m := (m.1, ⟨m.2.i, m.2.l, l[k].e.p⟩)) (by rw [setB_fst]; exact hnd) (setB_mem hml _) l[k].e.x).trans (setB_setB _ _ _ _), ← hnx] at S89
        refine nsr ?_
        refine mv h88 rfl rfl fun a90 h90 => ?_
        refine mv h90 rfl rfl fun a91 h91 => ?_
        refine sv h91 (as_val (v' := .int .i64 l[k].l) (congrArg _ q1.symm) (ex_move (h91.ev rfl))) fun a92 h92 => ?_
        refine mv h92 rfl rfl fun a93 h93 => ?_
        refine sv h93 (ex_nilck (h93.ev rfl)) fun a94 h94 => ?_
        refine sv (v := entV l[k].e) h94 (ex_loads (by kernel_rfl) (by kernel_rfl) (h94.ev rfl) (entAt (S89.rdBase hM hB0 hq) qk)) fun a95 h95 => ?_
        refine sl_updL (L1 := [bxsE _, cbE q.s]) (V := fun _ => .int .i64 _) h95 (wn rfl) (ex_callv hfc (h95.ev rfl) (h95.evs rfl) rfl) rfl rfl (S89.sub (.cons _ (.cons _ (.cons_cons _ (.cons_cons _ (.cons_cons _ .slnil)))))) (hcb q.j _ _ q.s (m.1, ⟨m.2.i, m.2.l, nxtU l[k].e⟩) l[k] hlt hKq S89.keptL (St.frontL (L2 := [_]) (S89.sub (.cons _ (.cons _ (.cons_cons _ (.cons_cons _ (.cons_cons _ .slnil))))))) (setB_mem hml _) (List.getElem_mem qk) ho hto rfl) fun p79 a96 X96 h96 hF79 S96 => ?_
        refine ma h96 rfl rfl fun a97 h97 => ?_
        refine nsr ?_
        refine mv h97 rfl rfl fun a98 h98 => ?_
        refine sv h98 (ex_neq (h98.ev rfl) (h98.ev rfl)) fun a99 h99 => ?_
        refine st_nil (go_then ?_)
        refine st_if (h99.ev rfl) (fun hc4 => ?_) (fun hc4 => ?_)
        ·
         have hne : (tk (π q.s) ⟨m.2.i, m.2.l, nxtU l[k].e⟩ l[k]).2.2 ≠ 0 := by simpa using hc4
         rw [if_pos hne] at hun
         refine st_seq (st_reg ?_)
         refine mv h99 rfl rfl fun a100 h100 => ?_
         refine ma h100 rfl rfl fun a101 h101 => ?_
         refine st_nil (go_then (wp_ret (ret_block (ret_then (ret_then (ret_block (ret_then ?_)))))))
         refine fin1 h101 rfl rfl ?_
         exact ⟨p79, by rw [hun], ⟨fun h => absurd h (by rw [hun]; exact hne), by rw [hF79.2, setB_fst]; exact hfs⟩, S96⟩
        ·
         have hne : (tk (π q.s) ⟨m.2.i, m.2.l, nxtU l[k].e⟩ l[k]).2.2 = 0 := by simpa using hc4
         rw [if_neg (fun h => h hne)] at hun
         obtain ⟨e1, e2, hK2⟩ := hF79.1 hne
         rw [setB_setB] at e1
         have hq2 : p79.1.map Prod.fst = ls0.map Prod.fst := by rw [hF79.2, setB_fst]; exact hfs
         have hu2 : ∀ x ∈ p79.1, 0 ≤ x.2.u := by
          rw [e1]
          exact setB_all (p := fun y => 0 ≤ y.u) hu (by rw [(htk _ _ _).1]; exact hnn)
         have hun2 : U = undG l tk (101 - (q.j + 1)) p79.1 (π p79.2) := by rw [hun, e1, e2, show 101 - (q.j + 1) = g by omega]; rfl
         refine wp_skip (go_block (go_then (st_reg ?_)))
         refine sv h99 (ex_add (h99.ev rfl) (h99.ev rfl) (by omega)) fun a102 h102 => ?_
         refine mv h102 rfl rfl fun a103 h103 => ?_
         refine st_nil (go_then ?_)
         exact ⟨⟨q.j + 1, p79.1, p79.2⟩, (by show 101 - (q.j + 1) < 101 - q.j; omega), ⟨hlt, hun2, hq2, hu2, hK2⟩, h103.re ⟨rfl, rfl, rfl, rfl, trivial⟩, S96⟩
       ·
        have hnx : nxtU l[k].e = l[k].e.p := by unfold nxtU; rw [if_neg (by simpa using hc3)]
        rw [← hnx] at S76
        refine wp_skip (go_then (st_seq (st_reg ?_)))
        refine mv h81 rfl rfl fun a104 h104 => ?_
        refine mv h104 rfl rfl fun a105 h105 => ?_
        refine sv h105 (as_val (v' := .int .i64 l[k].l) (congrArg _ q1.symm) (ex_move (h105.ev rfl))) fun a106 h106 => ?_
        refine mv h106 rfl rfl fun a107 h107 => ?_
        refine sv h107 (ex_nilck (h107.ev rfl)) fun a108 h108 => ?_
        refine sv (v := entV l[k].e) h108 (ex_loads (by kernel_rfl) (by kernel_rfl) (h108.ev rfl) (entAt (S76.rdBase hM hB0 hq) qk)) fun a109 h109 => ?_
        refine sl_updL (L1 := [bxsE _, cbE q.s]) (V := fun _ => .int .i64 _) h109 (wn rfl) (ex_callv hfc (h109.ev rfl) (h109.evs rfl) rfl) rfl rfl (S76.sub (.cons _ (.cons _ (.cons_cons _ (.cons_cons _ (.cons_cons _ .slnil)))))) (hcb q.j _ _ q.s (m.1, ⟨m.2.i, m.2.l, nxtU l[k].e⟩) l[k] hlt hKq S76.keptL (St.frontL (L2 := [_]) (S76.sub (.cons _ (.cons _ (.cons_cons _ (.cons_cons _ (.cons_cons _ .slnil))))))) (setB_mem hml _) (List.getElem_mem qk) ho hto rfl) fun p79 a110 X110 h110 hF79 S110 => ?_
        refine ma h110 rfl rfl fun a111 h111 => ?_
        refine nsr ?_
        refine mv h111 rfl rfl fun a112 h112 => ?_
        refine sv h112 (ex_neq (h112.ev rfl) (h112.ev rfl)) fun a113 h113 => ?_
        refine st_nil (go_then ?_)
        refine st_if (h113.ev rfl) (fun hc4 => ?_) (fun hc4 => ?_)
        ·
         have hne : (tk (π q.s) ⟨m.2.i, m.2.l, nxtU l[k].e⟩ l[k]).2.2 ≠ 0 := by simpa using hc4
         rw [if_pos hne] at hun
         refine st_seq (st_reg ?_)
         refine mv h113 rfl rfl fun a114 h114 => ?_
         refine ma h114 rfl rfl fun a115 h115 => ?_
         refine st_nil (go_then (wp_ret (ret_block (ret_then (ret_then (ret_block (ret_then ?_)))))))
         refine fin1 h115 rfl rfl ?_
         exact ⟨p79, by rw [hun], ⟨fun h => absurd h (by rw [hun]; exact hne), by rw [hF79.2, setB_fst]; exact hfs⟩, S110⟩
        ·
         have hne : (tk (π q.s) ⟨m.2.i, m.2.l, nxtU l[k].e⟩ l[k]).2.2 = 0 := by simpa using hc4
         rw [if_neg (fun h => h hne)] at hun
         obtain ⟨e1, e2, hK2⟩ := hF79.1 hne
         rw [setB_setB] at e1
         have hq2 : p79.1.map Prod.fst = ls0.map Prod.fst := by rw [hF79.2, setB_fst]; exact hfs
         have hu2 : ∀ x ∈ p79.1, 0 ≤ x.2.u := by
          rw [e1]
          exact setB_all (p := fun y => 0 ≤ y.u) hu (by rw [(htk _ _ _).1]; exact hnn)
         have hun2 : U = undG l tk (101 - (q.j + 1)) p79.1 (π p79.2) := by rw [hun, e1, e2, show 101 - (q.j + 1) = g by omega]; rfl
         refine wp_skip (go_block (go_then (st_reg ?_)))
         refine sv h113 (ex_add (h113.ev rfl) (h113.ev rfl) (by omega)) fun a116 h116 => ?_
         refine mv h116 rfl rfl fun a117 h117 => ?_
         refine st_nil (go_then ?_)
         exact ⟨⟨q.j + 1, p79.1, p79.2⟩, (by show 101 - (q.j + 1) < 101 - q.j; omega), ⟨hlt, hun2, hq2, hu2, hK2⟩, h117.re ⟨rfl, rfl, rfl, rfl, trivial⟩, S110⟩
   case hB => kernel_rfl
   case hst => rfl
 ·
  have hge : 101 ≤ q.j := by have := of_decide_eq_false hc0; omega
  have hun := hF0.2.1
  rw [show 101 - q.j = 0 by omega, undG] at hun
  refine wp_exit ?_
  refine go_exit_then ?_
  refine go_exit_then ?_
  refine go_exit ?_
  refine go_then (st_seq (st_reg ?_))
  refine ma h4 rfl rfl fun a118 h118 => ?_
  refine st_nil (go_then (wp_ret ?_))
  refine fin1 h118 rfl rfl ?_
  exact ⟨(q.ls, q.s), by rw [hun], ⟨fun h => absurd h (by rw [hun]; exact (by decide : ¬ (26 : Int) = 0)), hF0.2.2.1⟩, S3⟩
end Go.Proofs.YtcfdpfmchchkaaaGreatDoor
namespace Go.Proofs.YtcfdpfmchchkaaaGreatDoor
set_option linter.unusedVariables false
set_option linter.unusedSimpArgs false
open Go.RowKit
abbrev Pr := (Nat × Lsr) × Los
def bstG : List Pr → Option Pr
 | [] => none
 | x :: l => match bstG l with
  | none => some x
  | some y => if y.1.2.u > x.1.2.u then some y else some x
structure PrOk (ps : List Pr) : Prop where
 eq : ∀ p ∈ ps, p.1.2.i = p.2.i ∧ p.1.2.u = p.2.u
 n1 : (ps.map fun p => p.1.1).Nodup
 n2 : (ps.map fun p => p.2.j).Nodup
theorem bstG_mem : ∀ {ps : List Pr} {m : Pr}, bstG ps = some m → m ∈ ps
 | [], m, h => by cases h
 | x :: l, m, h => by
  unfold bstG at h
  split at h
  · cases h; exact List.mem_cons_self
  · rename_i y hy
    split at h
    · cases h; exact List.mem_cons_of_mem _ (bstG_mem hy)
    · cases h; exact List.mem_cons_self
theorem bstG_snd : ∀ {ps : List Pr}, (∀ p ∈ ps, p.1.2.u = p.2.u) → bstL (ps.map Prod.snd) = (bstG ps).map Prod.snd
 | [], h => rfl
 | x :: l, h => by
  have ih := bstG_snd (ps := l) fun p hp => h p (List.mem_cons_of_mem _ hp)
  rw [List.map_cons, bstL, ih, bstG]
  cases hb : bstG l with
  | none => rfl
  | some y =>
   have h1 := h x List.mem_cons_self
   have h2 := h y (List.mem_cons_of_mem _ (bstG_mem hb))
   simp only [Option.map_some]
   rw [← h1, ← h2]
   split <;> rfl
def bstN : List (Nat × Lsr) → Option (Nat × Lsr)
 | [] => none
 | x :: l => match bstN l with
  | none => some x
  | some y => if y.2.u > x.2.u then some y else some x
theorem bstN_fst : ∀ (ps : List Pr), bstN (ps.map Prod.fst) = (bstG ps).map Prod.fst
 | [] => rfl
 | x :: l => by
  rw [List.map_cons, bstN, bstN_fst l, bstG]
  cases bstG l with
  | none => rfl
  | some y =>
   simp only [Option.map_some]
   split <;> rfl
theorem fold_bst : ∀ (zs : List (Nat × Lsr)) (z : Nat × Lsr), some (zs.foldl mxS z) = bstN (z :: zs)
 | [], z => rfl
 | x :: r, z => by
  rw [List.foldl_cons, fold_bst r (mxS z x), bstN, bstN, bstN]
  unfold mxS
  cases hb : bstN r with
  | none => simp only; split <;> rfl
  | some y =>
   simp only
   by_cases h1 : y.2.u > x.2.u
   · rw [if_pos h1]
     simp only
     by_cases h2 : z.2.u < x.2.u
     · rw [if_pos h2, if_pos h1, if_pos (by omega)]
     · rw [if_neg h2]
   · rw [if_neg h1]
     simp only
     by_cases h2 : z.2.u < x.2.u
     · rw [if_pos h2, if_neg h1, if_pos (by omega)]
     · rw [if_neg h2, if_neg (by omega), if_neg (by omega)]
theorem mxL_bst (ls : List (Nat × Lsr)) : mxL ls = bstN ls := by
 cases ls with
 | nil => rfl
 | cons z zs => exact fold_bst zs z
theorem nodup_inj {α β : Type} {f : α → β} : ∀ {l : List α}, (l.map f).Nodup → ∀ {x y : α}, x ∈ l → y ∈ l → f x = f y → x = y
 | [], _, x, y, hx, _, _ => by cases hx
 | a :: l, h, x, y, hx, hy, e => by
  rw [List.map_cons, List.nodup_cons] at h
  rcases List.mem_cons.1 hx with hx | hx'
  · rcases List.mem_cons.1 hy with hy | hy'
    · rw [hx, hy]
    · refine absurd ?_ h.1
      rw [← hx, e]; exact List.mem_map_of_mem hy'
  · rcases List.mem_cons.1 hy with hy | hy'
    · refine absurd ?_ h.1
      rw [← hy, ← e]; exact List.mem_map_of_mem hx'
    · exact nodup_inj h.2 hx' hy' e
def setQ (ps : List Pr) (m : Pr) (x : Lsr) : List Pr := ps.map fun p => if p.1.1 = m.1.1 then ((p.1.1, x), ⟨p.2.j, p.2.i, x.u⟩) else p
theorem setQ_fst (ps : List Pr) (m : Pr) (x : Lsr) : (setQ ps m x).map Prod.fst = (ps.map Prod.fst).map fun y => if y.1 = m.1.1 then (y.1, x) else y := by
 unfold setQ
 rw [List.map_map, List.map_map]
 apply List.map_congr_left
 intro p _
 show (if p.1.1 = m.1.1 then (((p.1.1, x), (⟨p.2.j, p.2.i, x.u⟩ : Los)) : Pr) else p).1 = if p.1.1 = m.1.1 then (p.1.1, x) else p.1
 split <;> rfl
theorem setQ_snd {ps : List Pr} (h : PrOk ps) {m : Pr} (hm : m ∈ ps) (x : Lsr) : (setQ ps m x).map Prod.snd = setL (ps.map Prod.snd) m.2.j x.u := by
 unfold setQ setL
 rw [List.map_map, List.map_map]
 apply List.map_congr_left
 intro p hp
 show (if p.1.1 = m.1.1 then (((p.1.1, x), (⟨p.2.j, p.2.i, x.u⟩ : Los)) : Pr) else p).2 = if p.2.j = m.2.j then ⟨p.2.j, p.2.i, x.u⟩ else p.2
 by_cases e : p.1.1 = m.1.1
 · have := nodup_inj h.n1 hp hm e
   subst this
   rw [if_pos rfl, if_pos rfl]
 · rw [if_neg e, if_neg]
   intro q
   exact e (by rw [nodup_inj h.n2 hp hm q])
theorem setQ_ok {ps : List Pr} (h : PrOk ps) {m : Pr} (hm : m ∈ ps) {x : Lsr} (hx : x.i = m.1.2.i) : PrOk (setQ ps m x) := by
 refine ⟨fun p hp => ?_, ?_, ?_⟩
 · unfold setQ at hp
   obtain ⟨q, hq, rfl⟩ := List.mem_map.1 hp
   by_cases e : q.1.1 = m.1.1
   · rw [if_pos e]
     have := nodup_inj h.n1 hq hm e
     subst this
     exact ⟨hx.trans (h.eq _ hq).1, rfl⟩
   · rw [if_neg e]; exact h.eq _ hq
 · have e : (setQ ps m x).map (fun p => p.1.1) = ps.map fun p => p.1.1 := by
    unfold setQ
    rw [List.map_map]
    apply List.map_congr_left
    intro p _
    show (if p.1.1 = m.1.1 then (((p.1.1, x), (⟨p.2.j, p.2.i, x.u⟩ : Los)) : Pr) else p).1.1 = p.1.1
    split <;> rfl
   rw [e]; exact h.n1
 · have e : (setQ ps m x).map (fun p => p.2.j) = ps.map fun p => p.2.j := by
    unfold setQ
    rw [List.map_map]
    apply List.map_congr_left
    intro p _
    show (if p.1.1 = m.1.1 then (((p.1.1, x), (⟨p.2.j, p.2.i, x.u⟩ : Los)) : Pr) else p).2.j = p.2.j
    split <;> rfl
   rw [e]; exact h.n2
def runS {σ : Type} (tk : Taker σ) : (Nat → Int) → σ → List Stp → σ × Int
 | _, s, [] => (s, 0)
 | g, s, st :: r => if (tk s ⟨st.r.e.t, g st.j, nxtU st.r.e⟩ st.r).2.2 ≠ 0 then (s, (tk s ⟨st.r.e.t, g st.j, nxtU st.r.e⟩ st.r).2.2)
  else runS tk (fun k => if k = st.j then (tk s ⟨st.r.e.t, g st.j, nxtU st.r.e⟩ st.r).2.1.l else g k) (tk s ⟨st.r.e.t, g st.j, nxtU st.r.e⟩ st.r).1 r
theorem und_pln {σ : Type} (l : List Rcd) (tk : Taker σ) (htk : TkOk tk) : ∀ (f : Nat) (ps : List Pr) (s : σ) (g : Nat → Int), PrOk ps → (∀ p ∈ ps, g p.2.j = p.1.2.l) →
 ((plnG l f (ps.map Prod.snd)).2 = 0 → (undG l tk (f + 1) (ps.map Prod.fst) s).2 = runS tk g s (plnG l f (ps.map Prod.snd)).1) ∧
 ((∀ s x r, (tk s x r).2.2 = 0) → (undG l tk (f + 1) (ps.map Prod.fst) s).2.2 = (plnG l f (ps.map Prod.snd)).2) := by
 intro f
 induction f with
 | zero =>
  intro ps s g hps hg
  rw [undG, plnG, mxL_bst, bstN_fst, bstG_snd fun p hp => (hps.eq p hp).2]
  cases hb : bstG ps with
  | none => exact ⟨fun _ => rfl, fun _ => rfl⟩
  | some m =>
   have hm := bstG_mem hb
   obtain ⟨e1, e2⟩ := hps.eq m hm
   simp only [Option.map_some]
   rw [← e2, ← e1]
   by_cases h0 : m.1.2.u = 0
   · rw [if_pos h0, if_pos h0]; exact ⟨fun _ => rfl, fun _ => rfl⟩
   rw [if_neg h0, if_neg h0]
   cases hf : fndI l m.1.2.u with
   | none => exact ⟨fun h => by simp at h, fun _ => rfl⟩
   | some r =>
    simp only
    by_cases hr : isOpE r.e = true ∧ r.e.t = m.1.2.i
    · rw [if_pos hr, if_pos hr]
      refine ⟨fun h => by simp at h, fun h => ?_⟩
      rw [if_neg (by rw [h]; simp), undG]
    · rw [if_neg hr, if_neg hr]
      exact ⟨fun h => by simp at h, fun _ => rfl⟩
 | succ f ih =>
  intro ps s g hps hg
  rw [undG, plnG, mxL_bst, bstN_fst, bstG_snd fun p hp => (hps.eq p hp).2]
  cases hb : bstG ps with
  | none => exact ⟨fun _ => rfl, fun _ => rfl⟩
  | some m =>
   have hm := bstG_mem hb
   obtain ⟨e1, e2⟩ := hps.eq m hm
   have hgm := hg m hm
   simp only [Option.map_some]
   rw [← e2, ← e1]
   by_cases h0 : m.1.2.u = 0
   · rw [if_pos h0, if_pos h0]; exact ⟨fun _ => rfl, fun _ => rfl⟩
   rw [if_neg h0, if_neg h0]
   cases hf : fndI l m.1.2.u with
   | none => exact ⟨fun h => by simp at h, fun _ => rfl⟩
   | some r =>
    simp only
    by_cases hr : isOpE r.e = true ∧ r.e.t = m.1.2.i
    · rw [if_pos hr, if_pos hr]
      obtain ⟨hu, hi⟩ := htk s ⟨m.1.2.i, m.1.2.l, nxtU r.e⟩ r
      have hps' := setQ_ok hps hm (x := (tk s ⟨m.1.2.i, m.1.2.l, nxtU r.e⟩ r).2.1) hi
      have es := setQ_snd hps hm (tk s ⟨m.1.2.i, m.1.2.l, nxtU r.e⟩ r).2.1
      have ef := setQ_fst ps m (tk s ⟨m.1.2.i, m.1.2.l, nxtU r.e⟩ r).2.1
      rw [show (tk s ⟨m.1.2.i, m.1.2.l, nxtU r.e⟩ r).2.1.u = nxtU r.e from hu] at es
      obtain ⟨i1, i2⟩ := ih (setQ ps m (tk s ⟨m.1.2.i, m.1.2.l, nxtU r.e⟩ r).2.1) (tk s ⟨m.1.2.i, m.1.2.l, nxtU r.e⟩ r).1 (fun k => if k = m.2.j then (tk s ⟨m.1.2.i, m.1.2.l, nxtU r.e⟩ r).2.1.l else g k) hps' (fun p hp => by
       unfold setQ at hp
       obtain ⟨q, hq, rfl⟩ := List.mem_map.1 hp
       by_cases e : q.1.1 = m.1.1
       · have := nodup_inj hps.n1 hq hm e
         subst this
         rw [if_pos rfl]
         show (if q.2.j = q.2.j then _ else _) = _
         rw [if_pos rfl]
       · rw [if_neg e]
         show (if q.2.j = m.2.j then _ else _) = _
         rw [if_neg (fun z => e (by rw [nodup_inj hps.n2 hq hm z]))]
         exact hg q hq)
      rw [es, ef] at i1 i2
      refine ⟨fun h => ?_, fun h => ?_⟩
      · split at h
        · rename_i hne; exact absurd h hne
        rename_i hz
        have hz := Classical.not_not.1 hz
        rw [if_neg (show ¬ (plnG l f (setL (ps.map Prod.snd) m.2.j (nxtU r.e))).2 ≠ 0 by rw [hz]; simp)]
        simp only
        rw [runS]
        simp only
        rw [hgm, hr.2]
        by_cases ht : (tk s ⟨m.1.2.i, m.1.2.l, nxtU r.e⟩ r).2.2 ≠ 0
        · rw [if_pos ht, if_pos ht]
        · rw [if_neg ht, if_neg ht]
          exact i1 hz
      · rw [if_neg (by rw [h]; simp), i2 h]
        split
        · rfl
        · rename_i hz; exact Classical.not_not.1 hz
    · rw [if_neg hr, if_neg hr]
      exact ⟨fun h => by simp at h, fun _ => rfl⟩
def ordT : Taker (List Int) := fun s x r => (if r.e.k = 0 then s ++ [r.l] else s, x, 0)
theorem ordT_ok : TkOk ordT := fun _ _ _ => ⟨rfl, rfl⟩
theorem runS_ord : ∀ (st : List Stp) (g : Nat → Int) (s : List Int), runS ordT g s st = (s ++ (st.filter fun s => s.r.e.k == 0).map fun s => s.r.l, 0)
 | [], g, s => by simp [runS]
 | a :: r, g, s => by
  rw [runS]
  rw [if_neg (by show ¬ ((0 : Int) ≠ 0); simp), runS_ord r, List.filter_cons]
  unfold ordT
  by_cases h : a.r.e.k = 0
  · rw [if_pos (by simpa using h)]; simp [h]
  · rw [if_neg (by simpa using h)]; simp [h]
theorem zip_ok : ∀ (ts : List Trn) (j : Nat) (ls : List (Nat × Lsr)), ls.map Prod.snd = (ts.filter fun x => !x.c).map (fun x => (⟨x.i, x.l, x.u⟩ : Lsr)) → ∃ ps : List Pr, ps.map Prod.fst = ls ∧ ps.map Prod.snd = losG j ts ∧ (∀ p ∈ ps, p.1.2.i = p.2.i ∧ p.1.2.u = p.2.u ∧ j ≤ p.2.j ∧ ∃ x, ts[p.2.j - j]? = some x ∧ x.l = p.1.2.l) ∧ (ps.map fun p => p.2.j).Pairwise (· < ·)
 | [], j, ls, h => by
  cases ls with
  | nil => exact ⟨[], rfl, rfl, fun p hp => (by cases hp), .nil⟩
  | cons _ _ => cases h
 | x :: ts, j, ls, h => by
  cases hc : x.c with
  | true =>
   rw [List.filter_cons, if_neg (by rw [hc]; decide)] at h
   obtain ⟨ps, h1, h2, h3, h4⟩ := zip_ok ts (j + 1) ls h
   refine ⟨ps, h1, ?_, fun p hp => ?_, h4⟩
   · rw [losG, hc]; exact h2
   · obtain ⟨q1, q2, q3, y, hy, q4⟩ := h3 p hp
     refine ⟨q1, q2, by omega, y, ?_, q4⟩
     rw [show p.2.j - j = (p.2.j - (j + 1)) + 1 by omega]; exact hy
  | false =>
   rw [List.filter_cons, if_pos (by rw [hc]; decide), List.map_cons] at h
   cases ls with
   | nil => cases h
   | cons z ls =>
    rw [List.map_cons] at h
    injection h with hz h
    obtain ⟨ps, h1, h2, h3, h4⟩ := zip_ok ts (j + 1) ls h
    refine ⟨(z, ⟨j, x.i, x.u⟩) :: ps, by rw [List.map_cons, h1], ?_, fun p hp => ?_, ?_⟩
    · rw [losG, hc, List.map_cons, h2]; rfl
    · rcases List.mem_cons.1 hp with rfl | hp
      · refine ⟨by show z.2.i = x.i; rw [hz], by show z.2.u = x.u; rw [hz], Nat.le_refl _, x, ?_, by show x.l = z.2.l; rw [hz]⟩
        show (x :: ts)[j - j]? = _
        rw [Nat.sub_self]; rfl
      · obtain ⟨q1, q2, q3, y, hy, q4⟩ := h3 p hp
        refine ⟨q1, q2, by omega, y, ?_, q4⟩
        rw [show p.2.j - j = (p.2.j - (j + 1)) + 1 by omega]; exact hy
    · rw [List.map_cons]
      refine List.pairwise_cons.2 ⟨fun k hk => ?_, h4⟩
      obtain ⟨p, hp, rfl⟩ := List.mem_map.1 hk
      have := (h3 p hp).2.2.1
      show j < p.2.j
      omega
end Go.Proofs.YtcfdpfmchchkaaaGreatDoor
namespace Go.Proofs.YtcfdpfmchchkaaaGreatDoor
set_option linter.unusedVariables false
set_option linter.unusedSimpArgs false
open Go.RowKit
end Go.Proofs.YtcfdpfmchchkaaaGreatDoor
namespace Go.Proofs.YtcfdpfmchchkaaaGreatDoor
set_option linter.unusedVariables false
set_option linter.unusedSimpArgs false
set_option maxRecDepth 4000
open Go.RowKit Go.Sort Go.Shelf
theorem St.split2 {M : List Nat} {w X : World} {e e1 e2 : Ent} {L : List Ent} (h : St M w X (e :: L)) (h1 : e1.ok X) (h2 : e2.ok X) (d1 : ∀ b, e1.dom b → e.dom b) (d2 : ∀ b, e2.dom b → e.dom b) (hd : ∀ b, e1.dom b → ¬ e2.dom b) : St M w X (e1 :: e2 :: L) := by
 obtain ⟨s1, s2⟩ := List.pairwise_cons.1 h.sep
 refine ⟨h.os, h.tape, h.output, h.size, h.block, fun f hf => ?_, fun f hf b hb => ?_, List.pairwise_cons.2 ⟨fun f hf b hb hfb => ?_, List.pairwise_cons.2 ⟨fun f hf b hb hfb => s1 f hf b (d2 b hb) hfb, s2⟩⟩⟩
 · rcases List.mem_cons.1 hf with rfl | hf
   · exact h1
   · rcases List.mem_cons.1 hf with rfl | hf
     · exact h2
     · exact h.ok f (List.mem_cons_of_mem _ hf)
 · rcases List.mem_cons.1 hf with rfl | hf
   · exact h.new e List.mem_cons_self b (d1 b hb)
   · rcases List.mem_cons.1 hf with rfl | hf
     · exact h.new e List.mem_cons_self b (d2 b hb)
     · exact h.new f (List.mem_cons_of_mem _ hf) b hb
 · rcases List.mem_cons.1 hf with rfl | hf
   · exact hd b hb hfb
   · exact s1 f hf b (d1 b hb) hfb
def ordE (b : Nat) (s : Option Addr × Nat × List Int) : Ent :=
 .inv (fun k => k = b ∨ (Value.slice s.1 s.2.2.length s.2.1).ownBlock = some k)
  (fun X => Box X b #[.slice s.1 s.2.2.length s.2.1] 53 ∧ X.ownsRow 0 3 1 (.slice s.1 s.2.2.length s.2.1) s.2.2.length (s.2.2.map (.int .i64)) ∧ (Value.slice s.1 s.2.2.length s.2.1).ownBlock ≠ some b)
  (fun X X' h hb => ⟨(hb b (.inl rfl)).trans h.1, Ent.ok_of (e := .row (.slice s.1 s.2.2.length s.2.1) s.2.2.length 3 1 (s.2.2.map (.int .i64))) h.2.1 (fun k hk => hb k (.inr hk)), h.2.2⟩)
theorem ordE_split {M : List Nat} {w X : World} {b : Nat} {s : Option Addr × Nat × List Int} {L : List Ent} (h : St M w X (ordE b s :: L)) : St M w X (.box b #[.slice s.1 s.2.2.length s.2.1] 53 :: .row (.slice s.1 s.2.2.length s.2.1) s.2.2.length 3 1 (s.2.2.map (.int .i64)) :: L) := by
 have k := h.at_ (i := 0) rfl
 exact h.split2 k.1 k.2.1 (fun q hq => .inl hq) (fun q hq => .inr hq) (fun q hq hq' => k.2.2 (by rw [← (show q = b from hq)]; exact hq'))
theorem ordE_fuse {M : List Nat} {w X : World} {b : Nat} {s : Option Addr × Nat × List Int} {L : List Ent} (h : St M w X (.box b #[.slice s.1 s.2.2.length s.2.1] 53 :: .row (.slice s.1 s.2.2.length s.2.1) s.2.2.length 3 1 (s.2.2.map (.int .i64)) :: L)) : St M w X (ordE b s :: L) :=
 h.fuse2 (e := ordE b s) (fun q hq => hq) ⟨h.at_ (i := 0) rfl, h.at_ (i := 1) rfl, fun q => (List.pairwise_cons.1 h.sep).1 _ List.mem_cons_self b rfl q⟩
theorem setB_self {ls : List (Nat × Lsr)} (hnd : (ls.map Prod.fst).Nodup) {m : Nat × Lsr} (hm : m ∈ ls) : setB ls m.1 m.2 = ls := by
 have := bxsS_eq hnd hm m.2.u
 have e : bxsS ls m.1 2 m.2.u = ls := by
  unfold bxsS
  conv => rhs; rw [← List.map_id ls]
  apply List.map_congr_left
  intro x hx
  show (if x.1 = m.1 then (x.1, lsrS x.2 2 m.2.u) else x) = x
  by_cases e : x.1 = m.1
  · rw [if_pos e, nodup_inj (f := Prod.fst) hnd hx hm e]; rfl
  · rw [if_neg e]
 rw [← e, this]
 exact setB_setB _ _ _ _
theorem ord1_any (ls : List (Nat × Lsr)) (b : Nat) (s : Option Addr × Nat × List Int) (m : Nat × Lsr) (r : Rcd) (M : List Nat) (w : World) (hm : m ∈ ls) (hl : s.2.2.length ≤ 1000) (hS0 : St M w w [ordE b s, bxsE ls]) :
 Calls Tryz.prog 136 #[lsrP m, .int .i64 r.l, entV r.e, .pointer (some ⟨b, 0, none⟩)] w fun e w' => ∃ p : List (Nat × Lsr) × (Option Addr × Nat × List Int), e = .returned (.int .i64 0) ∧ (p.1 = setB ls m.1 m.2 ∧ p.2.2.2 = (ordT s.2.2 m.2 r).1) ∧ St M w w' [bxsE p.1, ordE b p.2] := by
 have hnd := (hS0.at_ (i := 1) rfl).2
 have hset := setB_self hnd hm
 refine st_enter (N := 15) Tryz.func136 rfl rfl rfl (fun a0 h0 => ?_)
 have S0 := ordE_split hS0
 refine st_seq (st_reg ?_)
 refine nb h0 rfl rfl S0 fun b6 a1 X1 gb6 h1 S1 => ?_
 refine ma h1 rfl rfl fun a2 h2 => ?_
 refine st_nil (go_then (st_seq (st_seq (st_reg ?_))))
 refine vf h2 0 0 rfl rfl rfl fun a3 h3 => ?_
 refine vl h3 S1 0 rfl rfl rfl rfl fun a4 h4 => ?_
 refine sv h4 (ex_eql (h4.ev rfl) (h4.ev rfl)) fun a5 h5 => ?_
 refine st_nil (go_then ?_)
 refine st_if (h5.ev rfl) (fun hc0 => ?_) (fun hc0 => ?_)
 ·
  refine st_reg ?_
  refine vl h5 S1 1 rfl rfl rfl rfl fun a6 h6 => ?_
  refine mv h6 rfl rfl fun a7 h7 => ?_
  refine sl_new h7 (wn rfl) (f := fun b => .slice (some ⟨b, 0, none⟩) 1 1) (ex_bslice Tryz.underlying53 (by kernel_rfl) (by kernel_rfl) (h7.evs2 rfl) rfl rfl rfl (by decide) (by decide)) rfl rfl S1 fun b13 a8 X8 gb13 h8 S8 => ?_
  refine sl_append (z := .int .i64 0) (sz := 1) (bytes := 8) h8 (wn rfl) ⟨rfl, rfl⟩ rfl Tryz.underlying53 (by kernel_rfl) rfl rfl (h8.ev rfl) (h8.ev rfl) S8 (i := 3) rfl (S8.boxRd (i := 0) rfl) rfl (List.all_eq_true.1 rfl) ⟨(by omega), by decide⟩ fun A14 c14 a9 X9 h9 S9 => ?_
  refine sl_store h9 (wn rfl) ⟨rfl, rfl⟩ (h9.ev rfl) (h9.ev rfl) rfl (by kernel_rfl) S9 (i := 2) rfl rfl rfl fun X10 S10 => ?_
  refine nsr ?_
  refine ma h9 rfl rfl fun a11 h11 => ?_
  refine st_nil (go_then (wp_ret ?_))
  refine fin1 h11 rfl rfl ?_
  have hk : r.e.k = 0 := by simpa using hc0
  refine ⟨(ls, A14, c14, s.2.2 ++ [r.l]), rfl, ⟨hset.symm, by show _ = (if r.e.k = 0 then s.2.2 ++ [r.l] else s.2.2); rw [if_pos hk]⟩, ?_⟩
  refine St.perm (L := [ordE b (A14, c14, s.2.2 ++ [r.l]), bxsE ls]) (ordE_fuse ?_) (List.Perm.swap _ _ _)
  show St M w _ [.box b #[.slice A14 (s.2.2 ++ [r.l]).length c14] _, .row (.slice A14 (s.2.2 ++ [r.l]).length c14) (s.2.2 ++ [r.l]).length _ 1 ((s.2.2 ++ [r.l]).map (.int .i64)), bxsE ls]
  rw [List.length_append, List.map_append]
  exact (S10.sub (.cons _ (.cons _ (.cons_cons _ (.cons_cons _ (.cons_cons _ .slnil))))))
 ·
  refine wp_skip (go_then (st_seq (st_reg ?_)))
  refine ma h5 rfl rfl fun a12 h12 => ?_
  refine st_nil (go_then (wp_ret ?_))
  refine fin1 h12 rfl rfl ?_
  have hk : r.e.k ≠ 0 := by simpa using hc0
  refine ⟨(ls, s), rfl, ⟨hset.symm, by show _ = (if r.e.k = 0 then s.2.2 ++ [r.l] else s.2.2); rw [if_neg hk]⟩, ?_⟩
  exact St.perm (L := [ordE b s, bxsE ls]) (ordE_fuse (S1.sub (.cons _ (.cons_cons _ (.cons_cons _ (.cons_cons _ .slnil)))))) (List.Perm.swap _ _ _)
end Go.Proofs.YtcfdpfmchchkaaaGreatDoor
namespace Go.Proofs.YtcfdpfmchchkaaaGreatDoor
set_option linter.unusedVariables false
set_option linter.unusedSimpArgs false
set_option maxRecDepth 4000
open Go.RowKit Go.Sort Go.Shelf
theorem losersS_any (t : Tbl) (A : Option Addr) (c : Nat) (B : Option Addr) (d : Nat) (w : World) (hr : Rd w w.heap.size A (t.ts.flatMap trsL)) (hl : t.ts.length ≤ 1000) :
 Calls Tryz.prog 123 #[tblV t A c B d] w fun e w' => ∃ i : {i : List (Nat × Lsr) × Option Addr × Nat // i.1.map Prod.snd = losL t.ts}, e = .returned (.slice i.1.2.1 i.1.1.length i.1.2.2) ∧ St [] w w' [.row (.slice i.1.2.1 i.1.1.length i.1.2.2) i.1.1.length 233 1 (i.1.1.map lsrP), bxsE i.1.1] :=
 (losers_any t A c B d w hr hl).mono fun e w' ⟨i, h1, h2, h3⟩ => ⟨⟨i, h2⟩, h1, h3⟩
theorem los_len (l : List Trn) : (losL l).length ≤ l.length := by
 unfold losL
 rw [List.length_map]
 exact List.length_filter_le _ _
def uoE (l : List Rcd) (t : Tbl) : Int := (plnV l t).2
def uoV (l : List Rcd) (t : Tbl) : List Int := if uoE l t = 0 then ordV l t else []
theorem und_ord {l : List Rcd} {t : Tbl} {ls : List (Nat × Lsr)} (hls : ls.map Prod.snd = losL t.ts) (hnd : (ls.map Prod.fst).Nodup) :
 (undG l ordT 101 ls []).2.2 = uoE l t ∧ (uoE l t = 0 → (undG l ordT 101 ls []).2.1 = uoV l t) := by
 obtain ⟨ps, h1, h2, h3, h4⟩ := zip_ok t.ts 0 ls hls
 have hps : PrOk ps := ⟨fun p hp => ⟨(h3 p hp).1, (h3 p hp).2.1⟩, by rw [← h1, List.map_map] at hnd; exact hnd, h4.imp (fun h q => by rw [q] at h; exact Nat.lt_irrefl _ h)⟩
 obtain ⟨r1, r2⟩ := und_pln l ordT ordT_ok 100 ps [] (fun k => match t.ts[k]? with | some x => x.l | none => 0) hps (fun p hp => by
  obtain ⟨_, _, _, x, hx, e⟩ := h3 p hp
  rw [Nat.sub_zero] at hx
  show (match t.ts[p.2.j]? with | some x => x.l | none => 0) = _
  rw [hx]; exact e)
 rw [h1, h2] at r1 r2
 have e2 : (undG l ordT 101 ls []).2.2 = uoE l t := r2 fun _ _ _ => rfl
 refine ⟨e2, fun hz => ?_⟩
 have e1 := r1 hz
 rw [runS_ord] at e1
 unfold uoV ordV plnV
 rw [if_pos hz, e1]; rfl
theorem St.pull {M : List Nat} {w X : World} {L : List Ent} {e : Ent} (h : St M w X L) (i : Nat) (hi : L[i]? = some e) : St M w X (e :: L.eraseIdx i) := by
 obtain ⟨hlt, rfl⟩ := List.getElem?_eq_some_iff.1 hi
 refine h.perm ?_
 have e : L = L.take i ++ L[i] :: L.drop (i + 1) := by rw [← List.drop_eq_getElem_cons hlt, List.take_append_drop]
 rw [List.eraseIdx_eq_take_drop_succ]
 conv => rhs; rw [e]
 exact List.perm_middle.symm
theorem St.fresh {w X : World} {L L' : List Ent} (h : St [] w X L) (hs : L'.Sublist L) : ∀ b ∈ domsL X L', w.heap.size ≤ b := fun b hb => by
 obtain ⟨_, e, he, hd⟩ := mem_domsL.1 hb
 rcases (h.new e (hs.subset he) b hd).1 with h1 | h1
 · exact h1
 · cases h1
theorem los_u {ls : List (Nat × Lsr)} {ts : List Trn} (h : ls.map Prod.snd = losL ts) (hu : ∀ x ∈ ts, 0 ≤ x.u) : ∀ x ∈ ls, 0 ≤ x.2.u := fun x hx => by
 have : x.2 ∈ losL ts := by rw [← h]; exact List.mem_map_of_mem hx
 unfold losL at this
 obtain ⟨y, hy, e⟩ := List.mem_map.1 this
 rw [← e]
 exact hu y (List.mem_filter.1 hy).1
theorem ordT_len (s : List Int) (x : Lsr) (r : Rcd) : (ordT s x r).1.length ≤ s.length + 1 := by
 unfold ordT
 simp only
 split
 · rw [List.length_append]; exact Nat.le_refl _
 · omega
theorem undoOrder_any (l : List Rcd) (B : Option Addr) (d : Nat) (t : Tbl) (TA : Option Addr) (tc : Nat) (TB : Option Addr) (td : Nat) (w : World)
 (hq : Rd w w.heap.size B (l.flatMap rcdL)) (ht1 : Rd w w.heap.size TA (t.ts.flatMap trsL)) (hv : VldH l l.length) (hl : l.length ≤ 1000) (htl : t.ts.length ≤ 999) (htu : ∀ x ∈ t.ts, 0 ≤ x.u) :
 Calls Tryz.prog 84 #[.slice B l.length d, tblV t TA tc TB td] w fun e w' => ∃ i : Option Addr × Nat, e = .returned (.tuple #[.slice i.1 (uoV l t).length i.2, .int .i64 (uoE l t)]) ∧ St [] w w' [.row (.slice i.1 (uoV l t).length i.2) (uoV l t).length 3 1 ((uoV l t).map (.int .i64))] := by
 refine st_enter (N := 17) Tryz.func84 rfl rfl rfl (fun a0 h0 => ?_)
 have S0 := St.init w
 refine st_seq (st_reg ?_)
 refine nb h0 rfl rfl S0 fun b3 a1 X1 gb3 h1 S1 => ?_
 refine ma h1 rfl rfl fun a2 h2 => ?_
 refine ma h2 rfl rfl fun a3 h3 => ?_
 refine nsr ?_
 refine na (.slice none 0 0) h3 rfl S1 fun b6 a4 X4 gb6 h4 S4 => ?_
 refine st_nil (go_then (st_seq (st_seq (st_reg ?_))))
 refine mv h4 rfl rfl fun a5 h5 => ?_
 refine sv (v := tblV t TA tc TB td) h5 (ex_loads (by kernel_rfl) (by kernel_rfl) (h5.ev rfl) (S4.cellsAll (i := 1) rfl)) fun a6 h6 => ?_
 refine sl_more h6 (wn rfl) (ex_call (fun _ _ => by kernel_rfl) (h6.evs rfl) rfl) rfl rfl S4 (losersS_any t TA tc TB td _ (S4.rd0 ht1) (by omega)) fun p10 a7 X7 h7 S7 => ?_
 refine sv h7 (ex_func (h7.evs rfl) (h7.evs rfl)) fun a8 h8 => ?_
 have hls := p10.2
 have hlen : p10.1.1.length ≤ t.ts.length := by have := los_len t.ts; rw [← hls, List.length_map] at this; exact this
 have hnd := (S7.at_ (i := 1) rfl).2
 obtain ⟨u1, u2⟩ := und_ord hls hnd
 replace S7 : St [] w X7 (bxsE p10.1.1 :: ordE b6 (none, 0, []) :: .row (.slice p10.1.2.1 p10.1.1.length p10.1.2.2) p10.1.1.length 233 1 (p10.1.1.map lsrP) :: [.box b3 (tblV t TA tc TB td).cells 25]) := St.pull (ordE_fuse (s := (none, 0, [])) (St.pull (S7.nilRow 3 1) 3 rfl)) 2 rfl
 refine sl_updL (L1 := [bxsE p10.1.1, ordE b6 (none, 0, []), .row (.slice p10.1.2.1 p10.1.1.length p10.1.2.2) p10.1.1.length 233 1 (p10.1.1.map lsrP)]) (V := fun _ => .int .i64 _) h8 (wn rfl) (ex_call (fun _ _ => by kernel_rfl) (h8.evs rfl) rfl) rfl rfl S7 (undo_any (σ := List Int) (τ := Option Addr × Nat × List Int) (fun s => s.2.2) (ordE b6) ordT ordT_ok 136 [.pointer (some ⟨b6, 0, none⟩)] l B d w.heap.size p10.1.2.1 p10.1.2.2 p10.1.1 (none, 0, []) _ _ (fun j s => s.2.2.length ≤ j) (Nat.le_refl 0) (fun _ _ => by kernel_rfl) S7.size (S7.fresh (.cons_cons _ (.cons_cons _ (.cons_cons _ (.cons _ .slnil))))) (hq.below S7.below) hv hl (by omega) (los_u hls htu) (St.frontL (L2 := [_]) S7) (fun j X ls s m r hj hK hkl hS hm hr ho ht hu => (ord1_any ls b6 s m r _ X hm (by omega) (hS.swap)).mono fun e X' ⟨p, h1, ⟨h2, h3⟩, h4⟩ => ⟨p, h1, ⟨fun _ => ⟨h2, h3, by show p.2.2.2.length ≤ j + 1; rw [h3]; have := ordT_len s.2.2 m.2 r; omega⟩, by rw [h2, setB_fst]⟩, h4⟩)) fun p12 a9 X9 h9 hF12 S9 => ?_
 refine ma h9 rfl rfl fun a10 h10 => ?_
 rw [u1] at hF12 h10
 obtain ⟨hF12a, hF12b⟩ := hF12
 refine nsr ?_
 refine mv h10 rfl rfl fun a11 h11 => ?_
 refine sv h11 (ex_neq (h11.ev rfl) (h11.ev rfl)) fun a12 h12 => ?_
 refine st_nil (go_then ?_)
 refine st_if (h12.ev rfl) (fun hc0 => ?_) (fun hc0 => ?_)
 ·
  have hne : uoE l t ≠ 0 := by simpa using hc0
  have e1 : uoV l t = [] := by unfold uoV; rw [if_neg hne]
  refine st_seq (st_reg ?_)
  refine mv h12 rfl rfl fun a13 h13 => ?_
  refine ma h13 rfl rfl fun a14 h14 => ?_
  refine ma h14 rfl rfl fun a15 h15 => ?_
  refine st_nil (go_then (wp_ret (ret_then ?_)))
  refine fin2 h15 rfl rfl rfl ?_
  refine ⟨(none, 0), by rw [e1]; rfl, ?_⟩
  rw [e1]
  exact (S9.sub (List.nil_sublist _)).nilRow 3 1
 ·
  have hz : uoE l t = 0 := by simpa using hc0
  have e1 : p12.2.2.2 = uoV l t := (hF12a hz).2.trans (u2 hz)
  refine wp_skip (go_then (st_seq (st_reg ?_)))
  refine sv h12 (ex_load (by kernel_rfl) (h12.ev rfl) (Box.cells (S9.at_ (i := 1) rfl).1 0)) fun a16 h16 => ?_
  refine ma h16 rfl rfl fun a17 h17 => ?_
  refine ma h17 rfl rfl fun a18 h18 => ?_
  refine st_nil (go_then (wp_ret ?_))
  refine fin2 h18 rfl rfl rfl ?_
  refine ⟨(p12.2.1, p12.2.2.1), by rw [← e1, hz]; rfl, ?_⟩
  rw [← e1]
  exact (ordE_split (L := [_, _, _]) (St.pull S9 1 rfl)).sub (.cons _ (.cons_cons _ (.cons _ (.cons _ (.cons _ .slnil)))))
def uoFE (l : List Rcd) (t : Tbl) : Int := firstE [(chkH l).2, tblE t]
def uoFV (l : List Rcd) (t : Tbl) : List Int := if uoFE l t = 0 then uoV l t else []
def uoFG (l : List Rcd) (t : Tbl) : Int := if uoFE l t = 0 then uoE l t else uoFE l t
theorem UndoOrder_any (l : List Rcd) (B : Option Addr) (d : Nat) (t : Tbl) (TA : Option Addr) (tc : Nat) (TB : Option Addr) (td : Nat) (w : World)
 (hq : Rd w w.heap.size B (l.flatMap rcdL)) (ht1 : Rd w w.heap.size TA (t.ts.flatMap trsL)) (ht2 : Rd w w.heap.size TB (t.ds.flatMap dtyL)) (hl : l.length ≤ 1000) (hc : l.length ≤ d) (hF : FolT w) (hx : ∀ x ∈ l, FewE x.e) :
 Calls Tryz.prog 31 #[.slice B l.length d, tblV t TA tc TB td] w fun e w' => ∃ i : Option Addr × Nat, e = .returned (.tuple #[.slice i.1 (uoFV l t).length i.2, .int .i64 (uoFG l t)]) ∧ St [] w w' [.row (.slice i.1 (uoFV l t).length i.2) (uoFV l t).length 3 1 ((uoFV l t).map (.int .i64))] := by
 refine st_enter (N := 21) Tryz.func31 rfl rfl rfl (fun a0 h0 => ?_)
 have S0 := St.init w
 refine st_seq (st_reg ?_)
 refine nb h0 rfl rfl S0 fun b3 a1 X1 gb3 h1 S1 => ?_
 refine ma h1 rfl rfl fun a2 h2 => ?_
 refine ma h2 rfl rfl fun a3 h3 => ?_
 refine st_nil (go_then (st_seq (st_seq ?_)))
 apply dr_flow h3 [false, false, false] _ (by kernel_rfl)
 case h =>
  refine qv h3 (fun X hX => ex_move (h3.ev rfl)) fun a4 h4 => ?_
  refine sq_bel h4 (wn rfl) rfl rfl (fun X => (ex_call (fun _ _ => by kernel_rfl) (h4.evs rfl) rfl)) (fun X hX => historyErr_any l B d _ ((S1.grow hX).rd0 hq) hl hc (hF.below (S1.grow hX).below) hx) fun a5 h5 => ?_
  refine qv (v := tblV t TA tc TB td) h5 (fun X hX => ex_loads (by kernel_rfl) (by kernel_rfl) (h5.ev rfl) ((S1.grow hX).cellsAll (i := 0) rfl)) fun a6 h6 => ?_
  refine sq_nil ?_
  refine nd_end fun X7 hX7 hΦ7 => ?_
  have S7 := S1.grow hX7
  refine sl_bel h6 (wn rfl) (ex_call (fun _ _ => by kernel_rfl) (h6.evs rfl) rfl) rfl rfl S7 (CheckTable_any t TA tc TB td _ (S7.rd0 ht1) (S7.rd0 ht2)) fun a8 X8 h8 S8 => ?_
  refine sl_new h8 (wn rfl) (f := fun b => .slice (some ⟨b, 0, none⟩) 2 2) (ex_bslice Tryz.underlying214 (by kernel_rfl) (by kernel_rfl) (h8.evs2 rfl) rfl rfl rfl (by decide) (by decide)) rfl rfl S8 fun b11 a9 X9 gb11 h9 S9 => ?_
  refine sl_pure h9 (wn rfl) (ex_call (fun _ _ => by kernel_rfl) (h9.evs rfl) rfl) rfl rfl (recovery_first2 (S9.at_ (i := 0) rfl)) fun a10 h10 => ?_
  refine ma h10 rfl rfl fun a11 h11 => ?_
  refine nsr ?_
  refine mv h11 rfl rfl fun a12 h12 => ?_
  refine sv h12 (ex_neq (h12.ev rfl) (h12.ev rfl)) fun a13 h13 => ?_
  refine st_nil (go_then ?_)
  refine st_if (h13.ev rfl) (fun hc0 => ?_) (fun hc0 => ?_)
  ·
   have hne : uoFE l t ≠ 0 := by unfold uoFE; simpa using hc0
   have e1 : uoFV l t = [] := by unfold uoFV; rw [if_neg hne]
   have e2 : uoFG l t = uoFE l t := by unfold uoFG; rw [if_neg hne]
   refine st_seq (st_reg ?_)
   refine mv h13 rfl rfl fun a14 h14 => ?_
   refine ma h14 rfl rfl fun a15 h15 => ?_
   refine ma h15 rfl rfl fun a16 h16 => ?_
   refine st_nil (go_then (wp_ret (ret_then ?_)))
   refine fin2 h16 rfl rfl rfl ?_
   refine ⟨(none, 0), by rw [e1, e2]; rfl, ?_⟩
   rw [e1]
   exact (S9.sub (List.nil_sublist _)).nilRow 3 1
  ·
   have hz : uoFE l t = 0 := by unfold uoFE; simpa using hc0
   have e1 : uoFV l t = uoV l t := by unfold uoFV; rw [if_pos hz]
   have e2 : uoFG l t = uoE l t := by unfold uoFG; rw [if_pos hz]
   have hz2 := hz
   unfold uoFE at hz2
   rw [firstE_zero] at hz2
   have htk := tblE_zero.1 (hz2 (tblE t) (by simp))
   have htn := htk.n
   have hvl := (chk_vld (hz2 (chkH l).2 (by simp))).2
   refine wp_skip (go_then (st_seq (st_reg ?_)))
   refine mv h13 rfl rfl fun a17 h17 => ?_
   refine sv (v := tblV t TA tc TB td) h17 (ex_loads (by kernel_rfl) (by kernel_rfl) (h17.ev rfl) (S9.cellsAll (i := 1) rfl)) fun a18 h18 => ?_
   refine sl_more h18 (wn rfl) (ex_call (fun _ _ => by kernel_rfl) (h18.evs rfl) rfl) rfl rfl S9 (undoOrder_any l B d t TA tc TB td _ (S9.rd0 hq) (S9.rd0 ht1) hvl hl (by omega) (fun x hx => by obtain ⟨k, hk, rfl⟩ := List.getElem_of_mem hx; exact (htk.ts k hk).u.1)) fun p18 a19 X19 h19 S19 => ?_
   refine vx h19 rfl rfl rfl fun a20 h20 => ?_
   refine vx h20 rfl rfl rfl fun a21 h21 => ?_
   refine ma h21 rfl rfl fun a22 h22 => ?_
   refine ma h22 rfl rfl fun a23 h23 => ?_
   refine st_nil (go_then (wp_ret ?_))
   refine fin2 h23 rfl rfl rfl ?_
   refine ⟨p18, by rw [e1, e2]; rfl, ?_⟩
   rw [e1]
   exact (S19.sub (.cons_cons _ (.cons _ (.cons _ .slnil))))
 case hB => kernel_rfl
 case hst => rfl
end Go.Proofs.YtcfdpfmchchkaaaGreatDoor
