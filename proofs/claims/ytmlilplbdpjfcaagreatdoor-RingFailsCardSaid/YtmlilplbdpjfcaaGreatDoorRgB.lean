/-
  Chapter 20: the log that is read.
  Chapter 20: RingIn.
-/
import Derived.Test.YtmlilplbdpjfcaaGreatDoorRgE
namespace Go.Proofs.YtmlilplbdpjfcaaGreatDoor
set_option linter.unusedVariables false
set_option linter.unusedSimpArgs false
set_option maxRecDepth 4000
open Go.RowKit Go.Sort
theorem rc_fields {x : RdrP} {a aft : Int} {y : RecP} (h : rcO x a aft = some y) : y.l = a + 1 ∧ 0 ≤ a ∧ a % 8 = 0 ∧ y.b.size ≤ 3000 ∧ 1 ≤ y.s := by
 unfold rcO rcIn at h
 split at h
 · cases h
 · rename_i h0
   split at h
   · cases h
   · rename_i q b hp
     split at h
     · cases h
     · split at h
       · cases h
       · rename_i hd _
         split at h
         · cases h
         · rename_i hin
           split at h
           · cases h
           · rename_i wh _
             split at h
             · injection h with h
               rw [← h]
               have h2 : 1 ≤ nAt hd 0 2 ∧ nAt hd 0 2 ≤ 3000 := inB_true.1 (by simpa using hin)
               refine ⟨rfl, by omega, by omega, ?_, (pgIn_bd hp).2.1⟩
               show (bs ((wh.drop 12).take (nAt hd 0 2).toNat)).size ≤ 3000
               rw [bs_size]
               have := List.length_take_le (nAt hd 0 2).toNat (wh.drop 12)
               omega
             · cases h
theorem af_fields {x : RdrP} {y z : RecP} (hy : 1 ≤ y.l ∧ y.b.size ≤ 3000) (h : afO x y = some z) : 1 ≤ z.l ∧ z.l ≤ y.l + 4000 ∧ z.b.size ≤ 3000 := by
 have hsz : 12 ≤ szR y.b.size ∧ szR y.b.size ≤ 3020 := by unfold szR; omega
 have hbh : bhR y = y.l - 1 + szR y.b.size := rfl
 have hnx := nxtR_in (p := bhR y)
 have key : ∀ a, (a = bhR y ∨ a = nxtR (bhR y)) → rcO x a y.s = some z → 1 ≤ z.l ∧ z.l ≤ y.l + 4000 ∧ z.b.size ≤ 3000 := fun a ha hr => by
  have := rc_fields hr
  rcases ha with rfl | rfl <;> omega
 unfold afO afIn at h
 split at h
 · rename_i y' hf
   injection h with h
   rw [Option.filter_eq_some_iff] at hf
   rw [h] at hf
   exact key _ (.inl rfl) hf.1
 · split at h
   · cases h
   · split at h
     · cases h
     · rename_i y' hr
       have hz : y' = z := by
        split at h
        · injection h
        · split at h
          · cases h
          · split at h
            · injection h
            · cases h
       rw [hz] at hr
       exact key _ (.inr rfl) hr
def nxRs (o : Int) (rs : List RecP) : Int := match rs.getLast? with
 | none => o - 1
 | some z => nxtR (bhR z)
theorem nxRs_snoc (o : Int) (rs : List RecP) (y : RecP) : nxRs o (rs ++ [y]) = nxtR (bhR y) := by unfold nxRs; simp
def pgsK (s : List UInt8) (k : Nat) : List (List UInt8) := (List.range k).map (blkL s)
theorem pgsK_succ (s : List UInt8) (k : Nat) : pgsK s (k + 1) = pgsK s k ++ [blkL s k] := by
 unfold pgsK; rw [List.range_succ, List.map_append]; rfl
theorem rs_bd {x : RdrP} {la ea : RstP} (h : rstO x = some (la, ea)) : 1 ≤ la.s ∧ la.s ≤ 60000 ∧ 0 ≤ la.o ∧ la.o ≤ 100000000 := by
 have key : ∀ i y, arIn x.s x.pg i = some y → 1 ≤ y.s ∧ y.s ≤ 60000 ∧ 0 ≤ y.o ∧ y.o ≤ 100000000 := fun i y hy => by
  unfold arIn at hy
  split at hy
  · rename_i hc
    injection hy with hy
    have hE := hc.1
    rw [← hy]
    unfold rsoR
    rw [if_pos hE]
    have h2 : rstE (rsoV (opL (blkL x.s i))) = 0 := by
     unfold rsoE at hE
     repeat' split at hE
     all_goals first | omega | skip
     all_goals (rename_i h3 _; simpa using h3)
    have h3 := rstB_bd ((unl_zero (by decide)).1 h2)
    omega
  · cases hy
 unfold rstO rsIn at h
 cases h0 : arIn x.s x.pg 0 with
 | none => cases h1 : arIn x.s x.pg 1 with
  | none => rw [h0, h1] at h; cases h
  | some b =>
   rw [h0, h1] at h
   injection h with h; injection h with h _; rw [← h]; exact key 1 b h1
 | some a => cases h1 : arIn x.s x.pg 1 with
  | none =>
   rw [h0, h1] at h
   injection h with h; injection h with h _; rw [← h]; exact key 0 a h0
  | some b =>
   rw [h0, h1] at h
   simp only at h
   split at h
   · injection h with h; injection h with h _; rw [← h]; exact key 1 b h1
   · injection h with h; injection h with h _; rw [← h]; exact key 0 a h0
structure RiS where
 b : Nat
 y : RecP
 cur : Option RecP
 rs : List RecP
 A : Option Addr
 c : Nat
 ks : List (Nat × Option Nat)
structure RiF (x : RdrP) (cur0 : Option RecP) (q : RiS) : Prop where
 y : ∀ z, q.cur = some z → q.y = z
 all : allIn x.s x.pg x.top 100 cur0 = (allIn x.s x.pg x.top (100 - q.rs.length) q.cur).map (q.rs ++ ·)
 len : q.rs.length ≤ 100
 bd : ∀ z, q.cur = some z → 1 ≤ z.l ∧ z.l ≤ 100000001 + 4000 * q.rs.length ∧ z.b.size ≤ 3000
 i6 : ∀ z ∈ q.rs, I6 z.l
theorem RiF.next {x : RdrP} {cur0 : Option RecP} {q : RiS} (h : RiF x cur0 q) (hc : q.cur = some q.y) (hl : q.rs.length < 100) (b : Nat) (y' : RecP) (hy : ∀ z, afO x q.y = some z → y' = z) (A : Option Addr) (c : Nat) (ks : List (Nat × Option Nat)) :
 RiF x cur0 ⟨b, y', afO x q.y, q.rs ++ [q.y], A, c, ks⟩ := by
 have hb := h.bd _ hc
 refine ⟨hy, ?_, by simp; omega, fun z hz => ?_, fun z hz => ?_⟩
 · rw [h.all, hc]
   obtain ⟨f, hf⟩ : ∃ f, 100 - q.rs.length = f + 1 := ⟨99 - q.rs.length, by omega⟩
   have e : 100 - (q.rs ++ [q.y]).length = f := by simp; omega
   show _ = (allIn x.s x.pg x.top (100 - (q.rs ++ [q.y]).length) (afO x q.y)).map _
   rw [e, hf]
   show ((allIn x.s x.pg x.top f (afIn x.s x.pg x.top q.y)).map (q.y :: ·)).map (q.rs ++ ·) = _
   rw [Option.map_map]
   unfold afO
   congr 1
   funext l; simp
 · have := af_fields ⟨hb.1, hb.2.2⟩ hz
   refine ⟨this.1, ?_, this.2.2⟩
   simp only [List.length_append, List.length_cons, List.length_nil]
   omega
 · rcases List.mem_append.1 hz with h1 | h1
   · exact h.i6 z h1
   · rw [List.mem_singleton.1 h1]; unfold I6; omega
theorem St.rdrPack {M : List Nat} {w X : World} {L : List Ent} {x : RdrP} {R m G n c : Nat} (h : St M w X (.row (.slice (some ⟨G, 0, none⟩) n c) n 9 1 (rowS (pagesP x)) :: .box R #[.slice (some ⟨G, 0, none⟩) n c, .int .i64 x.top, .map (some m)] 110 :: mapE m [] :: L)) : St M w X (rdrE x R m G n c [] X [] :: L) := by
 have h1 := h.at_ (i := 0) rfl
 have h2 := h.at_ (i := 1) rfl
 have h3 := h.at_ (i := 2) rfl
 have hs := List.pairwise_cons.1 h.sep
 have hs2 := List.pairwise_cons.1 hs.2
 have hs3 := List.pairwise_cons.1 hs2.2
 have hD : ∀ b, rdrD R m G [] b → b = R ∨ b = m ∨ b = G := fun b hb => by
  rcases hb with h | h | h | ⟨q, h⟩
  · exact .inl h
  · exact .inr (.inl h)
  · exact .inr (.inr h)
  · cases h
 refine ⟨h.os, h.tape, h.output, h.size, h.block, fun e he => ?_, fun e he b hb => ?_, List.pairwise_cons.2 ⟨fun f hf b hb hfb => ?_, hs3.2⟩⟩
 · rcases List.mem_cons.1 he with rfl | he
   · exact ⟨⟨h2, h1, h3, fun p hp => by cases hp⟩, RdrRel.refl⟩
   · exact h.ok e (List.mem_cons_of_mem _ (List.mem_cons_of_mem _ (List.mem_cons_of_mem _ he)))
 · rcases List.mem_cons.1 he with rfl | he
   · rcases hD b hb with rfl | rfl | rfl
     · exact h.new _ (List.mem_cons_of_mem _ (List.mem_cons_self ..)) b rfl
     · exact h.new _ (List.mem_cons_of_mem _ (List.mem_cons_of_mem _ (List.mem_cons_self ..))) b rfl
     · exact h.new _ (List.mem_cons_self ..) b rfl
   · exact h.new e (List.mem_cons_of_mem _ (List.mem_cons_of_mem _ (List.mem_cons_of_mem _ he))) b hb
 · rcases hD b hb with rfl | rfl | rfl
   · exact hs2.1 f (List.mem_cons_of_mem _ hf) b rfl hfb
   · exact hs3.1 f hf b rfl hfb
   · exact hs.1 f (List.mem_cons_of_mem _ (List.mem_cons_of_mem _ hf)) b rfl hfb
end Go.Proofs.YtmlilplbdpjfcaaGreatDoor
namespace Go.Proofs.YtmlilplbdpjfcaaGreatDoor
set_option linter.unusedVariables false
set_option linter.unusedSimpArgs false
set_option maxRecDepth 4000
open Go.RowKit Go.Sort
theorem in_bad {s : List UInt8} {e : Int} (h : inV s = (rng0, e)) (he : e ≠ 0) : inE s = e ∧ inR s = rng0 := by
 have h1 : inE s = e := by unfold inE; rw [h]; simp [he]
 exact ⟨h1, by unfold inR; rw [h1, if_neg he]⟩
theorem in_good {s : List UInt8} {r : RngP} (h : inV s = (r, 0)) : inE s = (chkR r).2 ∧ inR s = if (chkR r).2 = 0 then r else rng0 := by
 have h1 : inE s = (chkR r).2 := by unfold inE; rw [h]; simp
 exact ⟨h1, by unfold inR; rw [h1, h]⟩
theorem allIn_none {s : List UInt8} {pg : Nat} {top : Int} (f : Nat) : allIn s pg top f none = some [] := by cases f <;> rfl
theorem RingIn_l (s : List UInt8) (w : World) (hl : s.length ≤ 1000000) :
 Calls Tryz.prog 22 #[.string (bs s)] w fun e w' => ∃ A c, e = .returned (.tuple #[ringV (inR s) A c, .int .i64 (inE s)]) ∧ w'.ownsRow w.heap.size 98 3 (.slice A (inR s).rs.length c) (inR s).rs.length (recsV (inR s).rs) ∧ Below w.heap.size w w' := by
 have hsz : (bs s).size = s.length := bs_size s
 refine st_enter (N := 111) Tryz.func22 rfl rfl rfl (fun a0 h0 => ?_)
 have S0 := St.init w
 refine st_seq (st_reg ?_)
 refine na (.agg #[.int .i64 0, .int .i64 0, .int .i64 0, .int .i64 0, .int .i64 0, .int .i64 0, .int .i64 0, .slice none 0 0, .int .i64 0]) h0 rfl S0 fun b2 a1 X1 gb2 h1 S1 => ?_
 refine ma h1 rfl rfl fun a2 h2 => ?_
 refine st_nil (go_then (st_seq (st_seq (st_reg ?_))))
 refine mv h2 rfl rfl fun a3 h3 => ?_
 refine sv h3 (ex_slen Tryz.underlying9 (h3.ev rfl)) fun a4 h4 => ?_
 refine sv h4 (ex_rem (h4.ev rfl) (h4.ev rfl) ⟨by omega, by omega⟩) fun a5 h5 => ?_
 refine sv h5 (ex_neq (h5.ev rfl) (h5.ev rfl)) fun a6 h6 => ?_
 refine mv h6 rfl rfl fun a7 h7 => ?_
 apply sl_or h7 S1 17 rfl 6 23
 case hf =>
  intro gc17
  refine sy h7 rfl rfl rfl gc17 (ex_move (h7.ev rfl)) rfl rfl fun a8 h8 => ?_
  refine sy h8 rfl rfl rfl gc17 (ex_slen Tryz.underlying9 (h8.ev rfl)) rfl rfl fun a9 h9 => ?_
  refine sy h9 rfl rfl rfl gc17 (ex_quo (h9.ev rfl) (h9.ev rfl) ⟨by omega, by omega, by omega⟩) rfl rfl fun a10 h10 => ?_
  refine sl_pure h10 (wanted_yes h10 _ rfl rfl rfl gc17) (ex_call (fun _ _ => by kernel_rfl) (h10.evs rfl) rfl) rfl rfl (pagesErr_any _ _) fun a11 h11 => ?_
  refine sy h11 rfl rfl rfl gc17 (ex_neq (h11.ev rfl) (h11.ev rfl)) rfl rfl fun a12 h12 => ?_
  refine sv h12 (ex_pick_f (h12.ev rfl) gc17 (h12.ev rfl)) fun a13 h13 => ?_
  exact st_nil ⟨h13.mid (m := [(_, _), (_, _), (_, _), (_, _), (_, _)]) rfl, S1⟩
 case ht =>
  intro gc17
  refine no h7 rfl rfl rfl gc17 rfl rfl fun a14 h14 => ?_
  refine no h14 rfl rfl rfl gc17 rfl rfl fun a15 h15 => ?_
  refine no h15 rfl rfl rfl gc17 rfl rfl fun a16 h16 => ?_
  refine no h16 rfl rfl rfl gc17 rfl rfl fun a17 h17 => ?_
  refine no h17 rfl rfl rfl gc17 rfl rfl fun a18 h18 => ?_
  refine sv h18 (ex_pick_t (h18.ev rfl) gc17 (h18.ev rfl)) fun a19 h19 => ?_
  exact st_nil ⟨h19.mid (m := [(_, _), (_, _), (_, _), (_, _), (_, _)]) rfl, S1⟩
 case h =>
  rintro a20 X20 ⟨h20, S20⟩
  refine st_nil (go_then ?_)
  refine st_if (h20.ev rfl) (fun hc0 => ?_) (fun hc0 => ?_)
  ·
   have hbad : inV s = (rng0, 10) := by
    unfold inV
    rw [if_pos]
    rw [Bool.or_eq_true, bne_iff_ne, bne_iff_ne, hsz] at hc0
    rcases hc0 with h | h
    · left; omega
    · right; intro h2; exact h (by rw [← h2]; congr 1)
   refine st_seq (st_reg ?_)
   refine sv h20 (ex_build (zs := [.int .i64 0, .int .i64 0, .int .i64 0, .int .i64 0, .int .i64 0, .int .i64 0, .int .i64 0, .slice none 0 0, .int .i64 0]) (pl := [(0, 1), (1, 3), (4, 3), (7, 1), (8, 1)]) (by kernel_rfl) (by kernel_rfl) (h20.evs2 rfl) rfl rfl) fun a21 h21 => ?_
   refine sl_store0 h21 (wn rfl) ⟨rfl, rfl⟩ (h21.ev rfl) (h21.ev rfl) rfl (by kernel_rfl) S20 (i := 0) rfl rfl rfl fun X22 S22 => ?_
   refine ma h21 rfl rfl fun a23 h23 => ?_
   refine st_nil (go_then (wp_ret (ret_then ?_)))
   refine finct h23 rfl rfl rfl S22 (i := 0) rfl (by kernel_rfl) (by kernel_rfl) ?_
   obtain ⟨g1, g2⟩ := in_bad hbad (by decide)
   rw [g1, g2]
   exact ⟨none, 0, rfl, World.ownsRow_nil _ _ _ _, S22.below⟩
  ·
   have hgood : s.length % 512 = 0 ∧ pgsE ((s.length / 512 : Nat) : Int) = 0 := by
    rw [Bool.or_eq_false_iff, bne_eq_false_iff_eq, bne_eq_false_iff_eq, hsz] at hc0
    exact ⟨by omega, by rw [← hc0.2]; congr 1⟩
   obtain ⟨pg, hpg⟩ : ∃ y, s.length / 512 = y := ⟨_, rfl⟩
   have hlen : s.length = 512 * pg := by omega
   have hpb : 4 ≤ pg ∧ pg ≤ 40 := by
    have := inB_true.1 ((unl_zero (by decide)).1 hgood.2)
    omega
   refine wp_skip (go_then (st_seq (st_reg ?_)))
   refine sl_mkmap h20 (wn rfl) rfl rfl rfl S20 fun m25 a24 X24 hm25 h24 S24 => ?_
   refine sv h24 (ex_build (zs := [.slice none 0 0, .int .i64 0, .map none]) (pl := [(0, 1), (1, 1), (2, 1)]) (by kernel_rfl) (by kernel_rfl) (h24.evs2 rfl) rfl rfl) fun a25 h25 => ?_
   refine nb h25 rfl rfl S24 fun b27 a26 X26 gb27 h26 S26 => ?_
   refine ma h26 rfl rfl fun a27 h27 => ?_
   refine st_nil (go_then (st_seq (st_seq (st_reg ?_))))
   refine ma h27 rfl rfl fun a28 h28 => ?_
   replace S26 := St.nilRow S26 9 1
   refine st_nil (go_then (wp_block ?_))
   refine st_loop h28 S26 [4, 3, 2, 0] (fun (q : Nat × Option Addr × Nat) => [(5, .int .i64 ((512 * q.1 : Nat) : Int))]) (fun (q : Nat × Option Addr × Nat) => q.1 ≤ pg) (fun q L => (L.set 0 (.row (.slice q.2.1 q.1 q.2.2) q.1 9 1 (rowS (pgsK s q.1)))).set 1 (.box b27 #[.slice q.2.1 q.1 q.2.2, .int .i64 0, .map (some m25)] 110)) (fun (q : Nat × Option Addr × Nat) => pg - q.1) ((0, none, 0)) ((Nat.zero_le _)) ⟨rfl, rfl, rfl, rfl, rfl, trivial⟩ (S26) ?_
   intro q a29 X29 hF0 h29 S29
   refine st_seq (st_seq (st_reg ?_))
   refine mv h29 rfl rfl fun a30 h30 => ?_
   refine mv h30 rfl rfl fun a31 h31 => ?_
   refine sv h31 (ex_slen Tryz.underlying9 (h31.ev rfl)) fun a32 h32 => ?_
   refine sv h32 (ex_lss (h32.ev rfl) (h32.ev rfl)) fun a33 h33 => ?_
   refine st_nil (go_then ?_)
   refine st_if (h33.ev rfl) (fun hc1 => ?_) (fun hc1 => ?_)
   ·
    have hlt : q.1 < pg := by have := of_decide_eq_true hc1; omega
    refine wp_skip (go_then (st_seq (wp_block ?_)))
    apply dr_flowA (m := 11) h33 (St.domAt S29 (i := 0) rfl) 0 [false, false, false, false, false, false, false, false, false, false, true, true] _ (by kernel_rfl)
    case h =>
     refine qv h33 (fun X hX => ex_move (h33.ev rfl)) fun a34 h34 => ?_
     refine qv h34 (fun X hX => ex_move (h34.ev rfl)) fun a35 h35 => ?_
     refine qv h35 (fun X hX => ex_nilck (h35.ev rfl)) fun a36 h36 => ?_
     refine qv h36 (fun X hX => ex_field (off := 0) (j := 0) (by kernel_rfl) (h36.ev rfl) rfl) fun a37 h37 => ?_
     refine qv h37 (fun X hX => ex_load (by kernel_rfl) (h37.ev rfl) ((S29.growO (i := 0) rfl hX).cell (i := 1) rfl rfl)) fun a38 h38 => ?_
     refine qv h38 (fun X hX => ex_move (h38.ev rfl)) fun a39 h39 => ?_
     refine qv h39 (fun X hX => ex_move (h39.ev rfl)) fun a40 h40 => ?_
     refine qv h40 (fun X hX => ex_move (h40.ev rfl)) fun a41 h41 => ?_
     refine qv h41 (fun X hX => as_val (v' := .int .i64 ((512 * q.1 + 512 : Nat) : Int)) (congrArg _ (by omega)) (ex_add (h41.ev rfl) (h41.ev rfl) (by omega))) fun a42 h42 => ?_
     refine qv h42 (fun X hX => as_val (v' := strV (bs (blkL s q.1))) (congrArg _ (by rw [bs_extract, Nat.add_sub_cancel_left]; rfl)) (ex_sslice (l := (512 * q.1)) (h := (512 * q.1 + 512)) Tryz.underlying9 (h42.ev rfl) (h42.ev rfl) (h42.ev rfl) (by omega) (by omega))) fun a43 h43 => ?_
     refine sq_nil ?_
     apply na_step (k := 10) (deps := []) (R := NewB _ (fun b => .slice (some ⟨b, 0, none⟩) 1 1) _ _) h43 rfl rfl rfl NewB.stable (hx := fun X hX hΦ => lv_new (ex_bslice Tryz.underlying80 (by kernel_rfl) (by kernel_rfl) (h43.evs2 rfl) rfl rfl rfl (by decide) (by decide)) hX.size)
     case hst2 => exact (NewB.kpO (fun b hb => (S29.new _ (List.mem_of_getElem? (i := 0) rfl) b hb).2))
     intro v44 a44 h44
     apply na_app (k := 11) (deps := [10]) (R := AppB _ _ _ _ _ _) h44 rfl rfl rfl AppB.stable (fun X hX hΦ => lv_appo (z := .string ⟨#[]⟩) (sz := 1) (bytes := 16) rfl Tryz.underlying80 (by kernel_rfl) rfl rfl (h44.ev rfl) (h44.ev rfl) ((S29.grow hX).at_ (i := 0) rfl) (NewB.rd (told_get (k := 10) hΦ rfl rfl)) rfl (List.all_eq_true.1 rfl) ⟨(by show q.1 + 1 ≤ 1000000; omega), by decide⟩ hX.size)
     intro v45 a45 h45
     refine na_end fun X46 hX46 hΦ46 => ?_
     obtain ⟨A45, c45, q46, S46⟩ := S29.growRow (i := 0) rfl hX46 (told_all hΦ46 (k := 11) rfl)
     subst q46
     have qv44 := told_all hΦ46 (k := 10) rfl
     refine sv h45 (ex_nilck (h45.ev rfl)) fun a47 h47 => ?_
     refine vf h47 0 0 rfl rfl rfl fun a48 h48 => ?_
     refine sl_store h48 (wn rfl) ⟨rfl, rfl⟩ (h48.ev rfl) (h48.ev rfl) rfl (by kernel_rfl) S46 (i := 1) rfl rfl rfl fun X49 S49 => ?_
     replace S49 := S49.xsEq (i := 0) (xs' := rowS (pgsK s (q.1 + 1))) rfl (by rw [pgsK_succ]; unfold rowS; rw [List.map_append]; rfl)
     refine st_nil (go_block (go_then (st_reg ?_)))
     refine mv h48 rfl rfl fun a50 h50 => ?_
     refine sv h50 (as_val (v' := .int .i64 ((512 * (q.1 + 1) : Nat) : Int)) (congrArg _ (by omega)) (ex_add (h50.ev rfl) (h50.ev rfl) (by omega))) fun a51 h51 => ?_
     refine ma h51 rfl rfl fun a52 h52 => ?_
     refine st_nil (go_then ?_)
     exact ⟨(q.1 + 1, A45, c45), (by show pg - (q.1 + 1) < pg - q.1; omega), (by show q.1 + 1 ≤ pg; omega), h52.re ⟨rfl, rfl, rfl, rfl, rfl, trivial⟩, S49⟩
    case hB => kernel_rfl
    case hst => rfl
   ·
    have hq : q.1 = pg := by have := of_decide_eq_false hc1; omega
    rw [hq] at S29
    obtain ⟨g, hg⟩ := row_some (S29.at_ (i := 0) rfl) (by omega)
    rw [hg] at S29
    have hx0 : RdrB ⟨s, pg, 0⟩ := ⟨hlen, hpb, by show (0 : Int) ≤ 60000; decide⟩
    refine wp_exit ?_
    refine go_exit_then ?_
    refine go_exit_then ?_
    refine go_exit ?_
    refine go_then (st_seq (st_reg ?_))
    refine mv h33 rfl rfl fun a53 h53 => ?_
    refine sl_bel h53 (wn rfl) (ex_call (fun _ _ => by kernel_rfl) (h53.evs rfl) rfl) rfl rfl S29 (rdrestart_any ⟨s, pg, 0⟩ hx0 b27 g q.2.2 (.int .i64 0) (.map (some m25)) _ (S29.at_ (i := 1) rfl) (S29.at_ (i := 0) rfl)) fun a54 X54 h54 S54 => ?_
    refine mv h54 rfl rfl fun a55 h55 => ?_
    refine vx h55 rfl rfl rfl fun a56 h56 => ?_
    refine vx h56 rfl rfl rfl fun a57 h57 => ?_
    refine vx h57 rfl rfl rfl fun a58 h58 => ?_
    refine na (.agg #[.int .i64 0, .int .i64 0, .int .i64 0]) h58 rfl S54 fun b6 a59 X59 gb6 h59 S59 => ?_
    refine na (.agg #[.int .i64 0, .int .i64 0, .int .i64 0]) h59 rfl S59 fun b7 a60 X60 gb7 h60 S60 => ?_
    refine sl_store0 h60 (wn rfl) ⟨rfl, rfl⟩ (h60.ev rfl) (h60.ev rfl) rfl (by kernel_rfl) S60 (i := 1) rfl rfl rfl fun X61 S61 => ?_
    refine sl_store0 h60 (wn rfl) ⟨rfl, rfl⟩ (h60.ev rfl) (h60.ev rfl) rfl (by kernel_rfl) S61 (i := 0) rfl rfl rfl fun X62 S62 => ?_
    refine ma h60 rfl rfl fun a63 h63 => ?_
    refine st_nil (go_then (st_seq (st_seq (st_reg ?_))))
    refine mv h63 rfl rfl fun a64 h64 => ?_
    refine sv h64 (ex_not (h64.ev rfl)) fun a65 h65 => ?_
    refine st_nil (go_then ?_)
    refine st_if (h65.ev rfl) (fun hc2 => ?_) (fun hc2 => ?_)
    ·
     have hrs : rstO ⟨s, pg, 0⟩ = none := by
      cases h : rstO ⟨s, pg, 0⟩ with
      | none => rfl
      | some y => rw [h] at hc2; simp at hc2
     have hbad : inV s = (rng0, 31) := by
      unfold inV
      rw [if_neg (by rintro (h | h); exact h hgood.1; exact h hgood.2), hpg]
      rw [show rsIn s ((pg : Nat) : Int) = none from hrs]
     refine st_seq (st_reg ?_)
     refine sv h65 (ex_build (zs := [.int .i64 0, .int .i64 0, .int .i64 0, .int .i64 0, .int .i64 0, .int .i64 0, .int .i64 0, .slice none 0 0, .int .i64 0]) (pl := [(0, 1), (1, 3), (4, 3), (7, 1), (8, 1)]) (by kernel_rfl) (by kernel_rfl) (h65.evs2 rfl) rfl rfl) fun a66 h66 => ?_
     refine sl_store0 h66 (wn rfl) ⟨rfl, rfl⟩ (h66.ev rfl) (h66.ev rfl) rfl (by kernel_rfl) S62 (i := 5) rfl rfl rfl fun X67 S67 => ?_
     refine ma h66 rfl rfl fun a68 h68 => ?_
     refine st_nil (go_then (wp_ret (ret_then ?_)))
     refine finct h68 rfl rfl rfl S67 (i := 5) rfl (by kernel_rfl) (by kernel_rfl) ?_
     obtain ⟨g1, g2⟩ := in_bad hbad (by decide)
     rw [g1, g2]
     exact ⟨none, 0, rfl, World.ownsRow_nil _ _ _ _, S67.below⟩
    ·
     obtain ⟨⟨la, ea⟩, hrs⟩ : ∃ y, rstO ⟨s, pg, 0⟩ = some y := Option.isSome_iff_exists.1 (by simpa using hc2)
     have hlb := rs_bd hrs
     have hx : RdrB ⟨s, pg, la.s⟩ := ⟨hlen, hpb, hlb.2.1⟩
     rw [hrs] at h65 S62
     refine wp_skip (go_then (st_seq (st_reg ?_)))
     refine mv h65 rfl rfl fun a69 h69 => ?_
     refine vf h69 0 0 rfl rfl rfl fun a70 h70 => ?_
     refine sv (v := .int .i64 la.s) h70 (ex_load (by kernel_rfl) (h70.ev rfl) (S62.cell (i := 1) rfl rfl)) fun a71 h71 => ?_
     refine sv h71 (ex_nilck (h71.ev rfl)) fun a72 h72 => ?_
     refine vf h72 1 1 rfl rfl rfl fun a73 h73 => ?_
     refine sl_store h73 (wn rfl) ⟨rfl, rfl⟩ (h73.ev rfl) (h73.ev rfl) rfl (by kernel_rfl) S62 (i := 3) rfl rfl rfl fun X74 S74 => ?_
     refine st_nil (go_then (st_seq ?_))
     apply dr_flow h73 [false, false, false, false, false, false, false, false, false, false, false, true] _ (by kernel_rfl)
     case h =>
      refine qv h73 (fun X hX => ex_move (h73.ev rfl)) fun a75 h75 => ?_
      refine qv h75 (fun X hX => ex_nilck (h75.ev rfl)) fun a76 h76 => ?_
      refine qv h76 (fun X hX => ex_field (off := 0) (j := 0) (by kernel_rfl) (h76.ev rfl) rfl) fun a77 h77 => ?_
      refine qv h77 (fun X hX => ex_load (by kernel_rfl) (h77.ev rfl) ((S74.grow hX).cell (i := 3) rfl rfl)) fun a78 h78 => ?_
      refine qv h78 (fun X hX => ex_len Tryz.underlying80 (h78.ev rfl)) fun a79 h79 => ?_
      refine qv (v := rstV la) h79 (fun X hX => ex_loads (by kernel_rfl) (by kernel_rfl) (h79.ev rfl) ((S74.grow hX).cellsAll (i := 1) rfl)) fun a80 h80 => ?_
      refine qv (v := rstV ea) h80 (fun X hX => ex_loads (by kernel_rfl) (by kernel_rfl) (h80.ev rfl) ((S74.grow hX).cellsAll (i := 0) rfl)) fun a81 h81 => ?_
      refine qv h81 (fun X hX => ex_field (off := 2) (j := 2) (by kernel_rfl) (h81.ev rfl) rfl) fun a82 h82 => ?_
      refine qv (v := .int .i64 la.o) h82 (fun X hX => ex_load (by kernel_rfl) (h82.ev rfl) ((S74.grow hX).cell (i := 1) rfl rfl)) fun a83 h83 => ?_
      refine qv h83 (fun X hX => ex_sub (h83.ev rfl) (h83.ev rfl) ⟨by omega, by omega⟩) fun a84 h84 => ?_
      refine qv (v := ringV ⟨pg, la, ea, [], la.o - 1⟩ none 0) h84 (fun X hX => ex_build (zs := [.int .i64 0, .int .i64 0, .int .i64 0, .int .i64 0, .int .i64 0, .int .i64 0, .int .i64 0, .slice none 0 0, .int .i64 0]) (pl := [(0, 1), (1, 3), (4, 3), (7, 1), (8, 1)]) (by kernel_rfl) (by kernel_rfl) (h84.evs2 rfl) rfl rfl) fun a85 h85 => ?_
      refine sq_nil ?_
      apply nd_step (k := 11) (deps := []) (R := NewB _ (fun b => .pointer (some ⟨b, 0, none⟩)) _ _) h85 rfl rfl rfl NewB.stable (fun X hX hΦ => lv_new (ex_alloc (z := .agg #[.int .i64 0, .int .i64 0, .int .i64 0, .int .i64 0, .int .i64 0, .int .i64 0, .int .i64 0, .slice none 0 0, .int .i64 0]) (by kernel_rfl)) hX.size)
      intro v9 a86 h86
      refine nd_end fun X87 hX87 hΦ87 => ?_
      have S87 := S74.grow hX87
      have qv9 := told_all hΦ87 (k := 11) rfl
      obtain ⟨b9, rfl, gb9, qv9⟩ := qv9
      have S88 := S74.add hX87 (e := .box _ _ _) qv9 (fun b hb => by cases hb; exact ⟨gb9, Box.lt qv9⟩)
      refine sl_store0 h86 (wn rfl) ⟨rfl, rfl⟩ (h86.ev rfl) (h86.ev rfl) rfl (by kernel_rfl) S88 (i := 0) rfl rfl rfl fun X89 S89 => ?_
      obtain ⟨Wp, Sp⟩ : ∃ Wp, St [] w X89 (rdrE ⟨s, pg, la.s⟩ b27 m25 g pg q.2.2 [] Wp [] :: _) := ⟨X89, St.rdrPack (x := ⟨s, pg, la.s⟩) (R := b27) (m := m25) (G := g) (n := pg) (c := q.2.2) (((S89.front (i := 5) rfl).front (i := 5) rfl).front (i := 5) rfl)⟩
      replace S89 := St.nilRow Sp 98 3
      refine st_nil (go_then (st_seq (st_seq (st_reg ?_))))
      refine mv h86 rfl rfl fun a90 h90 => ?_
      refine vf h90 2 2 rfl rfl rfl fun a91 h91 => ?_
      refine sv (v := .int .i64 la.o) h91 (ex_load (by kernel_rfl) (h91.ev rfl) (S89.cell (i := 4) rfl rfl)) fun a92 h92 => ?_
      refine sv h92 (ex_sub (h92.ev rfl) (h92.ev rfl) ⟨by omega, by omega⟩) fun a93 h93 => ?_
      refine sl_updx h93 (wn rfl) (ex_call (fun _ _ => by kernel_rfl) (h93.evs rfl) rfl) rfl rfl S89 (i := 1) rfl (fun b hb => mem_rdrM.1 hb) (rdrecord_any ⟨s, pg, la.s⟩ hx b27 m25 g pg q.2.2 [] (la.o - 1) 0 (by omega) _ (S89.at_ (i := 1) rfl).1 (fun b hb => (S89.new _ (List.mem_of_getElem? (i := 1) rfl) b hb).2)) fun p78 a94 X94 h94 hF78 S94 => ?_
      replace S94 := St.rdrTrans (i := 1) (j := 1) S89 rfl S94 rfl
      refine mv h94 rfl rfl fun a95 h95 => ?_
      refine vx h95 rfl rfl rfl fun a96 h96 => ?_
      refine vx h96 rfl rfl rfl fun a97 h97 => ?_
      refine na (.agg #[.int .i64 0, .int .i64 0, .string ⟨#[]⟩]) h97 rfl S94 fun b10 a98 X98 gb10 h98 S98 => ?_
      refine sl_store0 h98 (wn rfl) ⟨rfl, rfl⟩ (h98.ev rfl) (h98.ev rfl) rfl (by kernel_rfl) S98 (i := 0) rfl rfl rfl fun X99 S99 => ?_
      refine ma h98 rfl rfl fun a100 h100 => ?_
      refine st_nil (go_then (wp_block ?_))
      refine st_loop h100 S99 [9, 4, 2] (fun (u : RiS) => [(10, .pointer (some ⟨u.b, 0, none⟩)), (11, .bool u.cur.isSome)]) (fun (u : RiS) => RiF ⟨s, pg, la.s⟩ (rcO ⟨s, pg, la.s⟩ (la.o - 1) 0) u) (fun u L => (((L.set 0 (.box u.b #[.int .i64 u.y.l, .int .i64 u.y.s, .string u.y.b] 98)).set 1 (.row (.slice u.A u.rs.length u.c) u.rs.length 98 3 (recsV u.rs))).set 2 (rdrE ⟨s, pg, la.s⟩ b27 m25 g pg q.2.2 [] Wp u.ks)).set 3 (.box b9 #[.int .i64 pg, .int .i64 la.s, .int .i64 la.c, .int .i64 la.o, .int .i64 ea.s, .int .i64 ea.c, .int .i64 ea.o, .slice u.A u.rs.length u.c, .int .i64 (nxRs la.o u.rs)] 26)) (fun (u : RiS) => 101 - u.rs.length) (⟨b10, p78.1, rcO ⟨s, pg, la.s⟩ (la.o - 1) 0, [], none, 0, p78.2⟩) (⟨fun z hz => hF78.1 z hz, (by show allIn s pg la.s 100 _ = (allIn s pg la.s 100 _).map _; cases allIn s pg la.s 100 (rcO ⟨s, pg, la.s⟩ (la.o - 1) 0) <;> rfl), Nat.zero_le _, fun z hz => (by have := rc_fields hz; show 1 ≤ z.l ∧ z.l ≤ 100000001 + 4000 * ((0 : Nat) : Int) ∧ _; omega), fun z hz => by cases hz⟩) ⟨rfl, rfl, rfl, rfl, rfl, trivial⟩ (S99) ?_
      intro u a101 X101 hF1 h101 S101
      refine st_seq (st_seq (st_reg ?_))
      refine mv h101 rfl rfl fun a102 h102 => ?_
      refine st_nil (go_then ?_)
      refine st_if (h102.ev rfl) (fun hc3 => ?_) (fun hc3 => ?_)
      ·
       obtain ⟨z, hz⟩ := Option.isSome_iff_exists.1 hc3
       have hcur : u.cur = some u.y := by rw [hz, hF1.y z hz]
       have hub := hF1.bd _ hcur
       have hul := hF1.len
       have huz : 12 ≤ szR u.y.b.size ∧ szR u.y.b.size ≤ 3020 := by unfold szR; omega
       have hbh : bhR u.y = u.y.l - 1 + szR u.y.b.size := rfl
       refine wp_skip (go_then (st_seq (wp_block (st_seq (st_seq (st_reg ?_))))))
       refine vf h102 7 7 rfl rfl rfl fun a103 h103 => ?_
       refine vl h103 S101 3 rfl rfl rfl rfl fun a104 h104 => ?_
       refine sv h104 (ex_len Tryz.underlying24 (h104.ev rfl)) fun a105 h105 => ?_
       refine sv h105 (ex_eql (h105.ev rfl) (h105.ev rfl)) fun a106 h106 => ?_
       refine st_nil (go_then ?_)
       refine st_if (h106.ev rfl) (fun hc4 => ?_) (fun hc4 => ?_)
       ·
        have h100 : u.rs.length = 100 := by have := eq_of_beq hc4; omega
        have hbad : inV s = (rng0, 8) := by
         have hall := hF1.all
         rw [h100, hcur] at hall
         have hall2 : allIn s pg la.s 100 (rcIn s pg la.s (la.o - 1) 0) = none := hall
         unfold inV
         rw [if_neg (by rintro (h | h); exact h hgood.1; exact h hgood.2), hpg]
         rw [show rsIn s ((pg : Nat) : Int) = some (la, ea) from hrs]
         simp only
         rw [hall2]
        refine st_seq (st_reg ?_)
        refine sv h106 (ex_build (zs := [.int .i64 0, .int .i64 0, .int .i64 0, .int .i64 0, .int .i64 0, .int .i64 0, .int .i64 0, .slice none 0 0, .int .i64 0]) (pl := [(0, 1), (1, 3), (4, 3), (7, 1), (8, 1)]) (by kernel_rfl) (by kernel_rfl) (h106.evs2 rfl) rfl rfl) fun a107 h107 => ?_
        refine sl_store0 h107 (wn rfl) ⟨rfl, rfl⟩ (h107.ev rfl) (h107.ev rfl) rfl (by kernel_rfl) S101 (i := 6) rfl rfl rfl fun X108 S108 => ?_
        refine ma h107 rfl rfl fun a109 h109 => ?_
        refine st_nil (go_then (wp_ret (ret_then (ret_block (ret_then (ret_then (ret_block (ret_then ?_))))))))
        refine finct h109 rfl rfl rfl S108 (i := 6) rfl (by kernel_rfl) (by kernel_rfl) ?_
        obtain ⟨g1, g2⟩ := in_bad hbad (by decide)
        rw [g1, g2]
        exact ⟨none, 0, rfl, World.ownsRow_nil _ _ _ _, S108.below⟩
       ·
        have hl100 : u.rs.length < 100 := by
         have : ¬ ((u.rs.length : Int) = 100) := by intro h; rw [h] at hc4; exact absurd hc4 (by decide)
         omega
        refine wp_skip (go_then ?_)
        apply dr_flowA (m := 4) h106 (St.domAt S101 (i := 1) rfl) 0 [false, false, false, true, true, false, false, false, false] _ (by kernel_rfl)
        case h =>
         refine qv h106 (fun X hX => ex_field (off := 7) (j := 7) (by kernel_rfl) (h106.ev rfl) rfl) fun a110 h110 => ?_
         refine qv h110 (fun X hX => ex_load (by kernel_rfl) (h110.ev rfl) ((S101.growO (i := 1) rfl hX).cell (i := 3) rfl rfl)) fun a111 h111 => ?_
         refine qv (v := recV u.y) h111 (fun X hX => ex_loads (by kernel_rfl) (by kernel_rfl) (h111.ev rfl) ((S101.growO (i := 1) rfl hX).cellsAll (i := 0) rfl)) fun a112 h112 => ?_
         refine qv (v := recV u.y) h112 (fun X hX => ex_loads (by kernel_rfl) (by kernel_rfl) (h112.ev rfl) ((S101.growO (i := 1) rfl hX).cellsAll (i := 0) rfl)) fun a113 h113 => ?_
         refine sq_bel h113 (wn rfl) rfl rfl (fun X => (ex_call (fun _ _ => by kernel_rfl) (h113.evs rfl) rfl)) (fun X hX => behind_any u.y _ (by omega) (by omega) (by omega)) fun a114 h114 => ?_
         refine sq_pure h114 (wn rfl) rfl rfl (fun X => (ex_call (fun _ _ => by kernel_rfl) (h114.evs rfl) rfl)) (fun X hX => next_any _ _ (by omega) (by omega)) fun a115 h115 => ?_
         refine qv h115 (fun X hX => ex_field (off := 7) (j := 7) (by kernel_rfl) (h115.ev rfl) rfl) fun a116 h116 => ?_
         refine sq_nil ?_
         apply na_step (k := 3) (deps := []) (R := NewB _ (fun b => .slice (some ⟨b, 0, none⟩) 1 1) _ _) h116 rfl rfl rfl NewB.stable (hx := fun X hX hΦ => lv_new (ex_bslice2 (cs := [.int .i64 u.y.l, .int .i64 u.y.s, .string u.y.b]) (zc := [.int .i64 0, .int .i64 0, .string ⟨#[]⟩]) (sz := 3) rfl Tryz.underlying24 (by kernel_rfl) (by kernel_rfl) rfl rfl rfl (h116.evs2 rfl) rfl rfl rfl) hX.size)
         case hst2 => exact (NewB.kpO (fun b hb => (S101.new _ (List.mem_of_getElem? (i := 1) rfl) b hb).2))
         intro v96 a117 h117
         apply na_app (k := 4) (deps := [3]) (R := AppB _ _ _ _ _ _) h117 rfl rfl rfl AppB.stable (fun X hX hΦ => lv_appo (z := .agg #[.int .i64 0, .int .i64 0, .string ⟨#[]⟩]) (sz := 3) (bytes := 32) rfl Tryz.underlying24 (by kernel_rfl) rfl rfl (h117.ev rfl) (h117.ev rfl) ((S101.grow hX).at_ (i := 1) rfl) (NewB.rd (told_get (k := 3) hΦ rfl rfl)) rfl (List.all_eq_true.1 rfl) ⟨(by omega), by decide⟩ hX.size)
         intro v97 a118 h118
         refine na_end fun X119 hX119 hΦ119 => ?_
         obtain ⟨A97, c97, q119, S119⟩ := S101.growRow (i := 1) rfl hX119 (told_all hΦ119 (k := 4) rfl)
         subst q119
         have qv96 := told_all hΦ119 (k := 3) rfl
         refine sl_store h118 (wn rfl) ⟨rfl, rfl⟩ (h118.ev rfl) (h118.ev rfl) rfl (by kernel_rfl) S119 (i := 3) rfl rfl rfl fun X120 S120 => ?_
         refine vf h118 8 8 rfl rfl rfl fun a121 h121 => ?_
         refine sl_store h121 (wn rfl) ⟨rfl, rfl⟩ (h121.ev rfl) (h121.ev rfl) rfl (by kernel_rfl) S120 (i := 3) rfl rfl rfl fun X122 S122 => ?_
         replace S122 := S122.xsEq (i := 1) (xs' := recsV (u.rs ++ [u.y])) rfl (by rw [recsV_append]; rfl)
         rw [show u.rs.length + 1 = (u.rs ++ [u.y]).length by simp, ← nxRs_snoc la.o u.rs u.y] at S122
         refine st_nil (go_block (go_then (st_seq (st_seq (st_reg ?_)))))
         refine sv h121 (ex_loads (by kernel_rfl) (by kernel_rfl) (h121.ev rfl) (S122.cellsAll (i := 0) rfl)) fun a123 h123 => ?_
         refine st_nil (go_then (st_reg ?_))
         refine na (.agg #[.int .i64 0, .int .i64 0, .string ⟨#[]⟩]) h123 rfl S122 fun b10 a124 X124 gb10 h124 S124 => ?_
         refine sl_store0 h124 (wn rfl) ⟨rfl, rfl⟩ (h124.ev rfl) (h124.ev rfl) rfl (by kernel_rfl) S124 (i := 0) rfl rfl rfl fun X125 S125 => ?_
         refine st_nil (go_then (st_reg ?_))
         refine mv h124 rfl rfl fun a126 h126 => ?_
         refine sv (v := recV u.y) h126 (ex_loads (by kernel_rfl) (by kernel_rfl) (h126.ev rfl) (S125.cellsAll (i := 0) rfl)) fun a127 h127 => ?_
         refine sl_updx h127 (wn rfl) (ex_call (fun _ _ => by kernel_rfl) (h127.evs rfl) rfl) rfl rfl S125 (i := 3) rfl (fun b hb => mem_rdrM.1 hb) (rdafter_any ⟨s, pg, la.s⟩ hx b27 m25 g pg q.2.2 u.ks u.y (by omega) _ (S125.at_ (i := 3) rfl).1 (fun b hb => (S125.new _ (List.mem_of_getElem? (i := 3) rfl) b hb).2)) fun p85 a128 X128 h128 hF85 S128 => ?_
         replace S128 := St.rdrTrans (i := 3) (j := 3) S125 rfl S128 rfl
         refine mv h128 rfl rfl fun a129 h129 => ?_
         refine vx h129 rfl rfl rfl fun a130 h130 => ?_
         refine vx h130 rfl rfl rfl fun a131 h131 => ?_
         refine sl_store0 h131 (wn rfl) ⟨rfl, rfl⟩ (h131.ev rfl) (h131.ev rfl) rfl (by kernel_rfl) S128 (i := 0) rfl rfl rfl fun X132 S132 => ?_
         refine ma h131 rfl rfl fun a133 h133 => ?_
         refine st_nil (go_then ?_)
         exact ⟨⟨b10, p85.1, afO ⟨s, pg, la.s⟩ u.y, u.rs ++ [u.y], A97, c97, p85.2⟩, (by show 101 - (u.rs ++ [u.y]).length < 101 - u.rs.length; simp; omega), hF1.next hcur hl100 _ _ hF85.1 _ _ _, h133.re ⟨rfl, rfl, rfl, rfl, rfl, trivial⟩, S132.sub (.cons_cons _ (.cons _ (.cons_cons _ (.cons_cons _ (.cons_cons _ (.cons_cons _ (.cons_cons _ (.cons_cons _ .slnil))))))))⟩
        case hB => kernel_rfl
        case hst => rfl
      ·
       have hcur : u.cur = none := by
        cases h : u.cur with
        | none => rfl
        | some z => rw [h] at hc3; cases hc3
       refine wp_exit ?_
       refine go_exit_then ?_
       refine go_exit_then ?_
       refine go_exit ?_
       refine go_then (st_seq (st_seq (st_reg ?_)))
       refine sv (v := ringV ⟨pg, la, ea, u.rs, nxRs la.o u.rs⟩ u.A u.c) h102 (ex_loads (by kernel_rfl) (by kernel_rfl) (h102.ev rfl) (S101.cellsAll (i := 3) rfl)) fun a134 h134 => ?_
       refine sl_bel h134 (wn rfl) (ex_call (fun _ _ => by kernel_rfl) (h134.evs rfl) rfl) rfl rfl S101 (ringErr_any ⟨pg, la, ea, u.rs, nxRs la.o u.rs⟩ u.A u.c _ (S101.rdOf (i := 1) rfl) (by have := hF1.len; show u.rs.length ≤ 1000; omega) hF1.i6) fun a135 X135 h135 S135 => ?_
       refine ma h135 rfl rfl fun a136 h136 => ?_
       have hinV : inV s = (⟨pg, la, ea, u.rs, nxRs la.o u.rs⟩, 0) := by
        have hall := hF1.all
        rw [hcur] at hall
        have hall2 : allIn s pg la.s 100 (rcIn s pg la.s (la.o - 1) 0) = some u.rs := by
         refine Eq.trans hall ?_
         show (allIn s pg la.s (100 - u.rs.length) none).map _ = _
         rw [allIn_none]; simp
        unfold inV
        rw [if_neg (by rintro (h | h); exact h hgood.1; exact h hgood.2), hpg]
        rw [show rsIn s ((pg : Nat) : Int) = some (la, ea) from hrs]
        simp only
        rw [hall2]
        rfl
       obtain ⟨g1, g2⟩ := in_good hinV
       refine nsr ?_
       refine mv h136 rfl rfl fun a137 h137 => ?_
       refine sv h137 (ex_neq (h137.ev rfl) (h137.ev rfl)) fun a138 h138 => ?_
       refine st_nil (go_then ?_)
       refine st_if (h138.ev rfl) (fun hc5 => ?_) (fun hc5 => ?_)
       ·
        have hne : ¬ (chkR ⟨pg, la, ea, u.rs, nxRs la.o u.rs⟩).2 = 0 := by simpa using hc5
        rw [if_neg hne] at g2
        refine st_seq (st_reg ?_)
        refine sv h138 (ex_build (zs := [.int .i64 0, .int .i64 0, .int .i64 0, .int .i64 0, .int .i64 0, .int .i64 0, .int .i64 0, .slice none 0 0, .int .i64 0]) (pl := [(0, 1), (1, 3), (4, 3), (7, 1), (8, 1)]) (by kernel_rfl) (by kernel_rfl) (h138.evs2 rfl) rfl rfl) fun a139 h139 => ?_
        refine mv h139 rfl rfl fun a140 h140 => ?_
        refine sl_store0 h140 (wn rfl) ⟨rfl, rfl⟩ (h140.ev rfl) (h140.ev rfl) rfl (by kernel_rfl) S135 (i := 6) rfl rfl rfl fun X141 S141 => ?_
        refine ma h140 rfl rfl fun a142 h142 => ?_
        refine st_nil (go_then (wp_ret (ret_then ?_)))
        refine finct h142 rfl rfl rfl S141 (i := 6) rfl (by kernel_rfl) (by kernel_rfl) ?_
        rw [g1, g2]
        exact ⟨none, 0, rfl, World.ownsRow_nil _ _ _ _, S141.below⟩
       ·
        have hz : (chkR ⟨pg, la, ea, u.rs, nxRs la.o u.rs⟩).2 = 0 := by simpa using hc5
        rw [if_pos hz] at g2
        rw [hz] at g1
        refine wp_skip (go_then (st_seq (st_reg ?_)))
        refine sv h138 (ex_loads (by kernel_rfl) (by kernel_rfl) (h138.ev rfl) (S135.cellsAll (i := 3) rfl)) fun a143 h143 => ?_
        refine sl_store0 h143 (wn rfl) ⟨rfl, rfl⟩ (h143.ev rfl) (h143.ev rfl) rfl (by kernel_rfl) S135 (i := 6) rfl rfl rfl fun X144 S144 => ?_
        refine ma h143 rfl rfl fun a145 h145 => ?_
        refine st_nil (go_then (wp_ret ?_))
        refine finct h145 rfl rfl rfl S144 (i := 6) rfl (by kernel_rfl) (by kernel_rfl) ?_
        rw [g1, g2]
        exact ⟨u.A, u.c, rfl, S144.ownB (i := 1) rfl, S144.below⟩
     case hB => kernel_rfl
     case hst => rfl
end Go.Proofs.YtmlilplbdpjfcaaGreatDoor
