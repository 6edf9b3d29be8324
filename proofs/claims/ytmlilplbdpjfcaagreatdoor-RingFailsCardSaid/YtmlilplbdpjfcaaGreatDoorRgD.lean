/-
  Chapter 20: the reader's bytes.
  Chapter 20: the reader's records.
  Chapter 20: the reader's record behind another one.
-/
import Derived.Test.YtmlilplbdpjfcaaGreatDoorRg13
namespace Go.Proofs.YtmlilplbdpjfcaaGreatDoor
set_option linter.unusedVariables false
set_option linter.unusedSimpArgs false
set_option maxRecDepth 4000
open Go.RowKit Go.Sort
def pgY (x : RdrP) (q : Nat) : Int × List UInt8 := (pgIn x.s x.pg x.top q).getD (0, [])
theorem pgIn_bd {s : List UInt8} {pg q : Nat} {top sq : Int} {cs : List UInt8} (h : pgIn s pg top q = some (sq, cs)) : cs.length ≤ 448 ∧ 1 ≤ sq ∧ sq ≤ top := by
 unfold pgIn at h
 split at h
 · cases h
 · split at h
   · rename_i h1
     injection h with h
     injection h with h2 h3
     rw [Bool.and_eq_true, Bool.and_eq_true, inB_true, inB_true] at h1
     rw [← h2, ← h3]
     have := List.length_take_le (nAt (opL (blkL s (2 + q % (pg - 2)))) 12 2).toNat ((opL (blkL s (2 + q % (pg - 2)))).drop 64)
     omega
   · cases h
theorem pgY_bd (x : RdrP) (q : Nat) : (pgY x q).2.length ≤ 448 := by
 unfold pgY
 cases h : pgIn x.s x.pg x.top q with
 | none => exact Nat.zero_le _
 | some y => exact (pgIn_bd h).1
theorem RdrOk.box_of {x : RdrP} {R m G n c q : Nat} {o : Option Nat} {ks : List (Nat × Option Nat)} {X : World} (h : RdrOk x R m G n c ks X) (hm : (q, o) ∈ ks) (ho : o.isNone = false) : Box X (o.getD 0) #[.int .i64 q, .int .i64 (pgY x q).1, .string (bs (pgY x q).2)] 149 := by
 have h1 := h.pgs _ hm
 cases o with
 | none => cases ho
 | some b =>
  obtain ⟨sq, cs, h2, h3⟩ := h1
  unfold pgY
  rw [h2]; exact h3
theorem RdrOk.some_of {x : RdrP} {R m G n c q : Nat} {o : Option Nat} {ks : List (Nat × Option Nat)} {X : World} (h : RdrOk x R m G n c ks X) (hm : (q, o) ∈ ks) (ho : o.isNone = false) : pgIn x.s x.pg x.top q = some (pgY x q) := by
 have h1 := h.pgs _ hm
 cases o with
 | none => cases ho
 | some b =>
  obtain ⟨sq, cs, h2, h3⟩ := h1
  unfold pgY
  rw [h2]; rfl
theorem RdrOk.none_of {x : RdrP} {R m G n c q : Nat} {o : Option Nat} {ks : List (Nat × Option Nat)} {X : World} (h : RdrOk x R m G n c ks X) (hm : (q, o) ∈ ks) (ho : o.isNone = true) : pgIn x.s x.pg x.top q = none := by
 have h1 := h.pgs _ hm
 cases o with
 | none => exact h1
 | some b => cases ho
theorem RdrNo.box_of {x : RdrP} {R m G n c q : Nat} {o : Option Nat} {ks : List (Nat × Option Nat)} {X : World} (h : RdrNo x R m G n c ks X) (hm : (q, o) ∈ ks) (ho : o.isNone = false) : Box X (o.getD 0) #[.int .i64 q, .int .i64 (pgY x q).1, .string (bs (pgY x q).2)] 149 := by
 obtain ⟨X0, h1, h2⟩ := h
 have h3 := h1.box_of hm ho
 refine (h2 _ (h1.ne_map h3) ?_).trans h3
 cases o with
 | none => cases ho
 | some b => exact .inr (.inr (.inr ⟨q, hm⟩))
theorem ptrV_some {o : Option Nat} (h : o.isNone = false) : ptrV o = .pointer (some ⟨o.getD 0, 0, none⟩) := by
 cases o with
 | none => cases h
 | some b => rfl
theorem run_pnil {P : Program} {X : World} {t e : TypeId} {q : TypeInfo} (o : Option Nat) (ht : P.underlying t = some (.pointer e)) (hq : P.info? e = some q) : (binOp .eql t (ptrV o) (.pointer none)).run P X = .ok (.bool o.isNone) X := by
 have h : ∀ d : Nat, (Op.equalIn (d + 1) t (ptrV o) (.pointer none)).run P X = .ok o.isNone X := fun d => by
  cases o <;> simp [ptrV, Op.equalIn, run_underlying ht, sizeOf, typeInfo, hq]
 simp only [binOp]
 simp [Op.equal, Op.maxDepth, h 9999]
theorem ex_pnil {P : Program} {ρ : Operand → Value} {X : World} {d : Option Tmp} {ty : TypeId} {ps : String} {af : Array Edge} {g : Option (Nat × Bool)} {x y : Operand} {t t' e : TypeId} {o : Option Nat} (ht : P.underlying t = some (.pointer e)) (hq : (P.info? e).isSome = true) (hgd : P.eqGuardType P.depth t = false) (hx : ρ x = ptrV o) (hy : ρ y = .pointer none) :
 (execOp ρ ⟨d, .binOp .eql t x y t', ty, ps, af, g⟩).run P X = .ok (.value (.bool o.isNone)) X := by
 obtain ⟨q, hq⟩ := Option.isSome_iff_exists.1 hq
 have h := run_pnil (P := P) (X := X) o ht hq
 simp [execOp, hx, hy, eqGuard, hgd, h]
theorem by_fuel {s : List UInt8} {pg : Nat} {top q : Int} : ∀ (f g c a : Nat), c ≤ f → c ≤ g → byIn s pg top q f c a = byIn s pg top q g c a
 | f, g, 0, a, _, _ => by cases f <;> cases g <;> rfl
 | 0, g, c + 1, a, h, _ => by omega
 | f + 1, 0, c + 1, a, _, h => by omega
 | f + 1, g + 1, c + 1, a, hf, hg => by
  unfold byIn
  cases pgIn s pg top (a / 448) with
  | none => rfl
  | some y =>
   obtain ⟨q', b⟩ := y
   simp only
   split
   · rfl
   · have : 1 ≤ min (c + 1) (448 - a % 448) := by omega
     rw [by_fuel f g _ _ (by omega) (by omega)]
theorem by_step {s : List UInt8} {pg : Nat} {top q : Int} {c a : Nat} (h : 0 < c) {m : Nat} (hm : min c (448 - a % 448) = m) : byIn s pg top q c c a = match pgIn s pg top (a / 448) with
 | none => none
 | some (q', b) => if q' ≠ q ∨ b.length < a % 448 + m then none else (byIn s pg top q (c - m) (c - m) (a + m)).map fun l => (b.drop (a % 448)).take m ++ l := by
 obtain ⟨c, rfl⟩ : ∃ d, c = d + 1 := ⟨c - 1, by omega⟩
 conv => lhs; unfold byIn
 rw [hm]
 cases pgIn s pg top (a / 448) with
 | none => rfl
 | some y =>
  obtain ⟨q', b⟩ := y
  simp only
  split
  · rfl
  · rw [by_fuel c (c + 1 - m) _ _ (by omega) (Nat.le_refl _)]
structure ByS where
 c : Nat
 a : Nat
 l : List UInt8
 v : Value
 u : Bool
 ks : List (Nat × Option Nat)
def byO (x : RdrP) (sq : Int) (cnt a : Nat) : Option (List UInt8) := byIn x.s x.pg x.top sq cnt cnt a
theorem rdbytes_any (x : RdrP) (hx : RdrB x) (R m G n c : Nat) (ks : List (Nat × Option Nat)) (a cnt : Nat) (sq : Int) (ha : a + cnt < 1000000000) (hcn : cnt ≤ 4000) (w : World) (hok : RdrOk x R m G n c ks w) (hM : ∀ b, rdrD R m G ks b → b < w.heap.size) :
 Calls Tryz.prog 110 #[.pointer (some ⟨R, 0, none⟩), .int .i64 a, .int .i64 cnt, .int .i64 sq] w fun r w' => ∃ p : List (Nat × Option Nat), r = .returned (.tuple #[.string (bs ((byO x sq cnt a).getD [])), .bool (byO x sq cnt a).isSome]) ∧ (∀ y ∈ ks, y ∈ p) ∧ St (rdrM R m G ks) w w' [rdrE x R m G n c ks w p] := by
 refine st_enter (N := 64) Tryz.func110 rfl rfl rfl (fun a0 h0 => ?_)
 have S0 := (St.initInv ⟨hok, RdrRel.refl⟩ (fun b hb => ⟨mem_rdrM.2 hb, hM b hb⟩) : St (rdrM R m G ks) w w [rdrE x R m G n c ks w ks])
 refine st_seq (st_reg ?_)
 refine ma h0 rfl rfl fun a1 h1 => ?_
 refine ma h1 rfl rfl fun a2 h2 => ?_
 refine nsr ?_
 refine na (.agg #[.pointer none, .slice none 0 0]) h2 rfl S0 fun b10 a3 X3 gb10 h3 S3 => ?_
 replace S3 := St.bld0 S3
 refine st_nil (go_then (st_seq (wp_block ?_)))
 refine st_loop h3 S3 [10, 0, 3] (fun (q : ByS) => [(1, .int .i64 (q.a : Int)), (2, .int .i64 (q.c : Int))]) (fun (q : ByS) => byO x sq cnt a = (byO x sq q.c q.a).map (q.l ++ ·) ∧ (∀ y ∈ ks, y ∈ q.ks) ∧ q.a + q.c = a + cnt ∧ q.l.length + q.c = cnt) (fun q L => (L.set 0 (bldE q.u b10 q.v q.l)).set 1 (rdrE x R m G n c ks w q.ks)) (fun (q : ByS) => q.c) (⟨cnt, a, [], .slice none 0 0, false, ks⟩) (⟨by cases byO x sq cnt a <;> rfl, fun y hy => hy, rfl, by show 0 + cnt = cnt; omega⟩) ⟨rfl, rfl, rfl, rfl, rfl, trivial⟩ (S3) ?_
 intro q a4 X4 hF0 h4 S4
 refine st_seq (st_seq (st_reg ?_))
 refine mv h4 rfl rfl fun a5 h5 => ?_
 refine sv h5 (ex_gtr (h5.ev rfl) (h5.ev rfl)) fun a6 h6 => ?_
 refine st_nil (go_then ?_)
 refine st_if (h6.ev rfl) (fun hc0 => ?_) (fun hc0 => ?_)
 ·
  have hpos : 0 < q.c := by have := of_decide_eq_true hc0; omega
  obtain ⟨hF1, hF2, hF3, hF4⟩ := hF0
  obtain ⟨mn, hmn⟩ : ∃ m, min q.c (448 - q.a % 448) = m := ⟨_, rfl⟩
  have hst : byO x sq q.c q.a = _ := by_step hpos hmn
  refine wp_skip (go_then (wp_block (st_seq (st_reg ?_))))
  refine mv h6 rfl rfl fun a7 h7 => ?_
  refine mv h7 rfl rfl fun a8 h8 => ?_
  refine sv h8 (as_val (v' := .int .i64 ((q.a / 448 : Nat) : Int)) (congrArg _ (by omega)) (ex_quo (h8.ev rfl) (h8.ev rfl) (by omega))) fun a9 h9 => ?_
  refine sl_updx h9 (wn rfl) (ex_call (fun _ _ => by kernel_rfl) (h9.evs rfl) rfl) rfl rfl S4 (i := 1) rfl (fun b hb => mem_rdrM.1 hb) (rdpage_any x hx R m G n c q.ks (q.a / 448) (by omega) _ (S4.at_ (i := 1) rfl).1 (fun b hb => (S4.new _ (List.mem_of_getElem? (i := 1) rfl) b hb).2)) fun p19 a10 X10 h10 hF19 S10 => ?_
  replace S10 := St.rdrTrans (i := 1) (j := 1) S4 rfl S10 rfl
  refine ma h10 rfl rfl fun a11 h11 => ?_
  refine nsr ?_
  refine mv h11 rfl rfl fun a12 h12 => ?_
  refine sv h12 (as_val (v' := .int .i64 ((q.a % 448 : Nat) : Int)) (congrArg _ (by omega)) (ex_rem (h12.ev rfl) (h12.ev rfl) (by omega))) fun a13 h13 => ?_
  refine ma h13 rfl rfl fun a14 h14 => ?_
  refine nsr ?_
  refine mv h14 rfl rfl fun a15 h15 => ?_
  refine mv h15 rfl rfl fun a16 h16 => ?_
  refine sv h16 (ex_sub (h16.ev rfl) (h16.ev rfl) (by omega)) fun a17 h17 => ?_
  refine sv h17 (as_val (v' := .int .i64 (mn : Int)) (congrArg _ (by omega)) (ex_min (by kernel_rfl) (h17.ev rfl) (h17.ev rfl))) fun a18 h18 => ?_
  refine ma h18 rfl rfl fun a19 h19 => ?_
  refine st_nil (go_then (st_seq (st_seq (st_reg ?_))))
  refine mv h19 rfl rfl fun a20 h20 => ?_
  refine sv h20 (ex_pnil Tryz.underlying146 (by kernel_rfl) (by kernel_rfl) (h20.ev rfl) (h20.ev rfl)) fun a21 h21 => ?_
  refine mv h21 rfl rfl fun a22 h22 => ?_
  apply sl_or h22 S10 28 rfl 7 35
  case hf =>
   intro gc28
   refine sy h22 rfl rfl rfl gc28 (ex_move (h22.ev rfl)) rfl rfl fun a23 h23 => ?_
   refine sy h23 rfl rfl rfl gc28 (ex_nilck ((h23.ev rfl).trans (ptrV_some gc28))) rfl rfl fun a24 h24 => ?_
   refine sy h24 rfl rfl rfl gc28 (ex_field (off := 1) (by kernel_rfl) (h24.ev rfl) rfl) rfl rfl fun a25 h25 => ?_
   refine sy h25 rfl rfl rfl gc28 (ex_load (by kernel_rfl) (h25.ev rfl) (box_cell (RdrOk.box_of (S10.at_ (i := 1) rfl).1 hF19.1 gc28) rfl)) rfl rfl fun a26 h26 => ?_
   refine sy h26 rfl rfl rfl gc28 (ex_move (h26.ev rfl)) rfl rfl fun a27 h27 => ?_
   refine sy h27 rfl rfl rfl gc28 (ex_neq (h27.ev rfl) (h27.ev rfl)) rfl rfl fun a28 h28 => ?_
   refine sv h28 (ex_pick_f (h28.ev rfl) gc28 (h28.ev rfl)) fun a29 h29 => ?_
   exact st_nil ⟨h29.mid (m := [(_, _), (_, _), (_, _), (_, _), (_, _), (_, _)]) rfl, S10⟩
  case ht =>
   intro gc28
   refine no h22 rfl rfl rfl gc28 rfl rfl fun a30 h30 => ?_
   refine no h30 rfl rfl rfl gc28 rfl rfl fun a31 h31 => ?_
   refine no h31 rfl rfl rfl gc28 rfl rfl fun a32 h32 => ?_
   refine no h32 rfl rfl rfl gc28 rfl rfl fun a33 h33 => ?_
   refine no h33 rfl rfl rfl gc28 rfl rfl fun a34 h34 => ?_
   refine no h34 rfl rfl rfl gc28 rfl rfl fun a35 h35 => ?_
   refine sv h35 (ex_pick_t (h35.ev rfl) gc28 (h35.ev rfl)) fun a36 h36 => ?_
   exact st_nil ⟨h36.mid (m := [(_, _), (_, _), (_, _), (_, _), (_, _), (_, _)]) rfl, S10⟩
  case h =>
   rintro a37 X37 ⟨h37, S37⟩
   refine mv h37 rfl rfl fun a38 h38 => ?_
   apply sl_or h38 S37 36 rfl 10 46
   case hf =>
    intro gc36
    refine sy h38 rfl rfl rfl gc36 (ex_move (h38.ev rfl)) rfl rfl fun a39 h39 => ?_
    refine sy h39 rfl rfl rfl gc36 (ex_nilck ((h39.ev rfl).trans (ptrV_some (Bool.or_eq_false_iff.1 gc36).1))) rfl rfl fun a40 h40 => ?_
    refine sy h40 rfl rfl rfl gc36 (ex_field (off := 2) (by kernel_rfl) (h40.ev rfl) rfl) rfl rfl fun a41 h41 => ?_
    refine sy h41 rfl rfl rfl gc36 (ex_load (by kernel_rfl) (h41.ev rfl) (box_cell (RdrOk.box_of (S37.at_ (i := 1) rfl).1 hF19.1 (Bool.or_eq_false_iff.1 gc36).1) rfl)) rfl rfl fun a42 h42 => ?_
    refine sy h42 rfl rfl rfl gc36 (ex_slen Tryz.underlying9 (h42.ev rfl)) rfl rfl fun a43 h43 => ?_
    refine sy h43 rfl rfl rfl gc36 (ex_move (h43.ev rfl)) rfl rfl fun a44 h44 => ?_
    refine sy h44 rfl rfl rfl gc36 (ex_move (h44.ev rfl)) rfl rfl fun a45 h45 => ?_
    refine sy h45 rfl rfl rfl gc36 (ex_add (h45.ev rfl) (h45.ev rfl) (by omega)) rfl rfl fun a46 h46 => ?_
    refine sy h46 rfl rfl rfl gc36 (ex_lss (h46.ev rfl) (h46.ev rfl)) rfl rfl fun a47 h47 => ?_
    refine sv h47 (ex_pick_f (h47.ev rfl) gc36 (h47.ev rfl)) fun a48 h48 => ?_
    exact st_nil ⟨h48.mid (m := [(_, _), (_, _), (_, _), (_, _), (_, _), (_, _), (_, _), (_, _), (_, _)]) rfl, S37⟩
   case ht =>
    intro gc36
    refine no h38 rfl rfl rfl gc36 rfl rfl fun a49 h49 => ?_
    refine no h49 rfl rfl rfl gc36 rfl rfl fun a50 h50 => ?_
    refine no h50 rfl rfl rfl gc36 rfl rfl fun a51 h51 => ?_
    refine no h51 rfl rfl rfl gc36 rfl rfl fun a52 h52 => ?_
    refine no h52 rfl rfl rfl gc36 rfl rfl fun a53 h53 => ?_
    refine no h53 rfl rfl rfl gc36 rfl rfl fun a54 h54 => ?_
    refine no h54 rfl rfl rfl gc36 rfl rfl fun a55 h55 => ?_
    refine no h55 rfl rfl rfl gc36 rfl rfl fun a56 h56 => ?_
    refine no h56 rfl rfl rfl gc36 rfl rfl fun a57 h57 => ?_
    refine sv h57 (ex_pick_t (h57.ev rfl) gc36 (h57.ev rfl)) fun a58 h58 => ?_
    exact st_nil ⟨h58.mid (m := [(_, _), (_, _), (_, _), (_, _), (_, _), (_, _), (_, _), (_, _), (_, _)]) rfl, S37⟩
   case h =>
    rintro a59 X59 ⟨h59, S59⟩
    refine st_nil (go_then ?_)
    refine st_if (h59.ev rfl) (fun hc1 => ?_) (fun hc1 => ?_)
    ·
     have hno : byO x sq q.c q.a = none := by
      rw [hst]
      cases hn : p19.1.isNone with
      | true => rw [RdrOk.none_of (S59.at_ (i := 1) rfl).1 hF19.1 hn]
      | false =>
       rw [RdrOk.some_of (S59.at_ (i := 1) rfl).1 hF19.1 hn]
       rw [hn] at hc1
       simp only
       rw [if_pos]
       have hlen := bs_size (pgY x (q.a / 448)).2
       simp only [Bool.false_or, Bool.or_eq_true, decide_eq_true_eq, bne_iff_ne] at hc1
       rw [hlen] at hc1
       rcases hc1 with h | h
       · exact .inl h
       · exact .inr (by omega)
     rw [hno] at hF1
     refine st_seq (st_reg ?_)
     refine ma h59 rfl rfl fun a60 h60 => ?_
     refine ma h60 rfl rfl fun a61 h61 => ?_
     refine st_nil (go_then (wp_ret (ret_then (ret_block (ret_then (ret_block (ret_then ?_)))))))
     refine fin2 h61 rfl rfl rfl ?_
     exact ⟨p19.2, (by rw [hF1]; rfl), (fun y hy => hF19.2 y (hF2 y hy)), (S59.sub (.cons _ (.cons_cons _ .slnil)))⟩
    ·
     have hn : p19.1.isNone = false := by
      rw [Bool.or_eq_false_iff, Bool.or_eq_false_iff] at hc1; exact hc1.1.1
     rw [RdrOk.some_of (S59.at_ (i := 1) rfl).1 hF19.1 hn] at hst
     have hlen := bs_size (pgY x (q.a / 448)).2
     have hpb := pgY_bd x (q.a / 448)
     have hlt : q.a % 448 + mn ≤ (pgY x (q.a / 448)).2.length := by
      simp only [Bool.or_eq_false_iff, decide_eq_false_iff_not] at hc1
      have := hc1.2
      omega
     have hsq : (pgY x (q.a / 448)).1 = sq := by
      simp only [Bool.or_eq_false_iff, bne_eq_false_iff_eq] at hc1
      exact hc1.1.2
     simp only at hst
     rw [if_neg (by rintro (h | h); exact h hsq; omega)] at hst
     have hpl : (((pgY x (q.a / 448)).2.drop (q.a % 448)).take mn).length = mn := by rw [List.length_take, List.length_drop]; omega
     refine wp_skip (go_then (st_seq (st_reg ?_)))
     refine mv h59 rfl rfl fun a62 h62 => ?_
     refine sv h62 (ex_nilck ((h62.ev rfl).trans (ptrV_some hn))) fun a63 h63 => ?_
     refine sv h63 (ex_field (off := 2) (by kernel_rfl) (h63.ev rfl) rfl) fun a64 h64 => ?_
     refine sv h64 (ex_load (by kernel_rfl) (h64.ev rfl) (box_cell (RdrOk.box_of (S59.at_ (i := 1) rfl).1 hF19.1 hn) rfl)) fun a65 h65 => ?_
     refine mv h65 rfl rfl fun a66 h66 => ?_
     refine mv h66 rfl rfl fun a67 h67 => ?_
     refine mv h67 rfl rfl fun a68 h68 => ?_
     refine sv h68 (as_val (v' := .int .i64 ((q.a % 448 + mn : Nat) : Int)) (congrArg _ (by omega)) (ex_add (h68.ev rfl) (h68.ev rfl) (by omega))) fun a69 h69 => ?_
     refine sv h69 (as_val (v' := .string (bs (((pgY x (q.a / 448)).2.drop (q.a % 448)).take mn))) (congrArg _ (by rw [bs_extract, Nat.add_sub_cancel_left])) (ex_sslice (l := (q.a % 448)) (h := (q.a % 448 + mn)) Tryz.underlying9 (h69.ev rfl) (h69.ev rfl) (h69.ev rfl) (by omega) (by omega))) fun a70 h70 => ?_
     refine sl_updx h70 (wn rfl) (ex_call (fun _ _ => by kernel_rfl) (h70.evs rfl) rfl) rfl rfl S59 (i := 0) rfl (fun b hb => mem_bldM.1 hb) (WriteString_st q.l _ _ (S59.at_ (i := 0) rfl) (fun k hk => (S59.new _ (List.mem_of_getElem? (i := 0) rfl) k hk).2) (by omega) (by intro h; rw [h] at hpl; simp at hpl; omega)) fun p56 a71 X71 h71 hF56 S71 => ?_
     refine st_nil (go_then (st_reg ?_))
     refine mv h71 rfl rfl fun a72 h72 => ?_
     refine mv h72 rfl rfl fun a73 h73 => ?_
     refine sv h73 (as_val (v' := .int .i64 ((q.a + mn : Nat) : Int)) (congrArg _ (by omega)) (ex_add (h73.ev rfl) (h73.ev rfl) (by omega))) fun a74 h74 => ?_
     refine mv h74 rfl rfl fun a75 h75 => ?_
     refine mv h75 rfl rfl fun a76 h76 => ?_
     refine sv h76 (as_val (v' := .int .i64 ((q.c - mn : Nat) : Int)) (congrArg _ (by omega)) (ex_sub (h76.ev rfl) (h76.ev rfl) (by omega))) fun a77 h77 => ?_
     refine ma h77 rfl rfl fun a78 h78 => ?_
     refine ma h78 rfl rfl fun a79 h79 => ?_
     refine st_nil (go_block (go_then ?_))
     exact ⟨⟨q.c - mn, q.a + mn, q.l ++ ((pgY x (q.a / 448)).2.drop (q.a % 448)).take mn, p56, true, p19.2⟩, (by show q.c - mn < q.c; omega), ⟨by rw [hF1, hst]; show Option.map _ (Option.map _ (byO x sq (q.c - mn) (q.a + mn))) = Option.map _ (byO x sq (q.c - mn) (q.a + mn)); rw [Option.map_map]; congr 1; funext l; simp, (fun y hy => hF19.2 y (hF2 y hy)), by show q.a + mn + (q.c - mn) = _; omega, by show (q.l ++ _).length + (q.c - mn) = _; rw [List.length_append, hpl]; omega⟩, h79.re ⟨rfl, rfl, rfl, rfl, rfl, trivial⟩, S71⟩
 ·
  have hz0 : q.c = 0 := by have := of_decide_eq_false hc0; omega
  obtain ⟨hF1, hF2, hF3, hF4⟩ := hF0
  refine wp_exit ?_
  refine go_exit_then ?_
  refine go_exit_then ?_
  refine go_exit ?_
  refine go_then (st_seq (st_reg ?_))
  refine sl_updx h6 (wn rfl) (ex_call (fun _ _ => by kernel_rfl) (h6.evs rfl) rfl) rfl rfl S4 (i := 0) rfl (fun b hb => mem_bldM.1 hb) (String_st q.l _ (S4.at_ (i := 0) rfl) (fun k hk => (S4.new _ (List.mem_of_getElem? (i := 0) rfl) k hk).2) (by omega)) fun p63 a80 X80 h80 hF63 S80 => ?_
  refine ma h80 rfl rfl fun a81 h81 => ?_
  refine ma h81 rfl rfl fun a82 h82 => ?_
  refine st_nil (go_then (wp_ret ?_))
  refine fin2 h82 rfl rfl rfl ?_
  exact ⟨q.ks, (by rw [hF1, hz0]; show _ = Ending.returned (.tuple #[.string (bs (((some ([] : List UInt8)).map (q.l ++ ·)).getD [])), .bool ((some ([] : List UInt8)).map (q.l ++ ·)).isSome]); simp), hF2, (S80.sub (.cons _ (.cons_cons _ .slnil)))⟩
end Go.Proofs.YtmlilplbdpjfcaaGreatDoor
namespace Go.Proofs.YtmlilplbdpjfcaaGreatDoor
set_option linter.unusedVariables false
set_option linter.unusedSimpArgs false
set_option maxRecDepth 4000
open Go.RowKit Go.Sort
def rcO (x : RdrP) (at' aft : Int) : Option RecP := rcIn x.s x.pg x.top at' aft
theorem rc_some {x : RdrP} {a : Nat} {aft sq : Int} {b : List UInt8} (h8 : (a : Int) % 8 = 0) (hp : pgIn x.s x.pg x.top (a / 448) = some (sq, b)) (hq : ¬ sq < aft) : rcO x a aft = match byO x sq 12 a with
 | none => none
 | some hd =>
  if inB (nAt hd 0 2) 1 3000 = false then none else
  match byO x sq (szR (nAt hd 0 2)).toNat a with
  | none => none
  | some wh => if encR ⟨(a : Int) + 1, sq, bs ((wh.drop 12).take (nAt hd 0 2).toNat)⟩ = wh then some ⟨(a : Int) + 1, sq, bs ((wh.drop 12).take (nAt hd 0 2).toNat)⟩ else none := by
 unfold rcO rcIn
 rw [if_neg (by omega)]
 simp only [Int.toNat_natCast, hp]
 rw [if_neg hq, by_fuel 3500 12 12 a (by omega) (by omega)]
 unfold byO
 cases byIn x.s x.pg x.top sq 12 12 a with
 | none => rfl
 | some hd =>
  simp only
  split
  · rfl
  · rename_i h1
    have h2 : 1 ≤ nAt hd 0 2 ∧ nAt hd 0 2 ≤ 3000 := by
     have : inB (nAt hd 0 2) 1 3000 = true := by simpa using h1
     exact inB_true.1 this
    have h3 : (szR (nAt hd 0 2)).toNat ≤ 3500 := by unfold szR; omega
    rw [by_fuel 3500 _ _ a h3 (Nat.le_refl _)]
    rfl
theorem rdrecord_any (x : RdrP) (hx : RdrB x) (R m G n c : Nat) (ks : List (Nat × Option Nat)) (at' aft : Int) (ha : -9000000000 < at' ∧ at' < 900000000) (w : World) (hok : RdrOk x R m G n c ks w) (hM : ∀ b, rdrD R m G ks b → b < w.heap.size) :
 Calls Tryz.prog 70 #[.pointer (some ⟨R, 0, none⟩), .int .i64 at', .int .i64 aft] w fun r w' => ∃ p : RecP × List (Nat × Option Nat), r = .returned (.tuple #[recV p.1, .bool (rcO x at' aft).isSome]) ∧ ((∀ y, rcO x at' aft = some y → p.1 = y) ∧ ∀ y ∈ ks, y ∈ p.2) ∧ St (rdrM R m G ks) w w' [rdrE x R m G n c ks w p.2] := by
 refine st_enter (N := 90) Tryz.func70 rfl rfl rfl (fun a0 h0 => ?_)
 have S0 := (St.initInv ⟨hok, RdrRel.refl⟩ (fun b hb => ⟨mem_rdrM.2 hb, hM b hb⟩) : St (rdrM R m G ks) w w [rdrE x R m G n c ks w ks])
 refine st_seq (st_reg ?_)
 refine na (.agg #[.int .i64 0, .int .i64 0, .string ⟨#[]⟩]) h0 rfl S0 fun b6 a1 X1 gb6 h1 S1 => ?_
 refine ma h1 rfl rfl fun a2 h2 => ?_
 refine nsr ?_
 refine na (.agg #[.int .i64 0, .int .i64 0, .string ⟨#[]⟩]) h2 rfl S1 fun b8 a3 X3 gb8 h3 S3 => ?_
 refine st_nil (go_then (st_seq (st_seq (st_reg ?_))))
 refine mv h3 rfl rfl fun a4 h4 => ?_
 refine sv h4 (ex_lss (h4.ev rfl) (h4.ev rfl)) fun a5 h5 => ?_
 refine mv h5 rfl rfl fun a6 h6 => ?_
 apply sl_or h6 S3 17 rfl 4 21
 case hf =>
  intro gc17
  refine sy h6 rfl rfl rfl gc17 (ex_move (h6.ev rfl)) rfl rfl fun a7 h7 => ?_
  refine sy h7 rfl rfl rfl gc17 (ex_rem (h7.ev rfl) (h7.ev rfl) ⟨by have := of_decide_eq_false gc17; omega, by omega⟩) rfl rfl fun a8 h8 => ?_
  refine sy h8 rfl rfl rfl gc17 (ex_neq (h8.ev rfl) (h8.ev rfl)) rfl rfl fun a9 h9 => ?_
  refine sv h9 (ex_pick_f (h9.ev rfl) gc17 (h9.ev rfl)) fun a10 h10 => ?_
  exact st_nil ⟨h10.mid (m := [(_, _), (_, _), (_, _)]) rfl, S3⟩
 case ht =>
  intro gc17
  refine no h6 rfl rfl rfl gc17 rfl rfl fun a11 h11 => ?_
  refine no h11 rfl rfl rfl gc17 rfl rfl fun a12 h12 => ?_
  refine no h12 rfl rfl rfl gc17 rfl rfl fun a13 h13 => ?_
  refine sv h13 (ex_pick_t (h13.ev rfl) gc17 (h13.ev rfl)) fun a14 h14 => ?_
  exact st_nil ⟨h14.mid (m := [(_, _), (_, _), (_, _)]) rfl, S3⟩
 case h =>
  rintro a15 X15 ⟨h15, S15⟩
  refine st_nil (go_then ?_)
  refine st_if (h15.ev rfl) (fun hc0 => ?_) (fun hc0 => ?_)
  ·
   have hno : rcO x at' aft = none := by
    unfold rcO rcIn
    rw [if_pos]
    rw [Bool.or_eq_true, decide_eq_true_eq, bne_iff_ne] at hc0
    exact hc0
   refine st_seq (st_reg ?_)
   refine sv h15 (ex_loads (by kernel_rfl) (by kernel_rfl) (h15.ev rfl) (S15.cellsAll (i := 0) rfl)) fun a16 h16 => ?_
   refine sl_store0 h16 (wn rfl) ⟨rfl, rfl⟩ (h16.ev rfl) (h16.ev rfl) rfl (by kernel_rfl) S15 (i := 1) rfl rfl rfl fun X17 S17 => ?_
   refine ma h16 rfl rfl fun a18 h18 => ?_
   refine st_nil (go_then (wp_ret (ret_then ?_)))
   refine finct h18 rfl rfl rfl S17 (i := 1) rfl (by kernel_rfl) (by kernel_rfl) ?_
   exact ⟨(rec0, ks), (by rw [hno]; rfl), ⟨fun y hy => (by rw [hno] at hy; cases hy), fun y hy => hy⟩, (S17.sub (.cons _ (.cons _ (.cons_cons _ .slnil))))⟩
  ·
   rw [Bool.or_eq_false_iff, decide_eq_false_iff_not, bne_eq_false_iff_eq] at hc0
   obtain ⟨h00, h08⟩ := hc0
   obtain ⟨a, rfl⟩ := Int.eq_ofNat_of_zero_le (by omega : 0 ≤ at')
   obtain ⟨Y, hY⟩ : ∃ Y, pgY x (a / 448) = Y := ⟨_, rfl⟩
   refine wp_skip (go_then (st_seq (st_reg ?_)))
   refine mv h15 rfl rfl fun a19 h19 => ?_
   refine mv h19 rfl rfl fun a20 h20 => ?_
   refine sv h20 (as_val (v' := .int .i64 ((a / 448 : Nat) : Int)) (congrArg _ (by omega)) (ex_quo (h20.ev rfl) (h20.ev rfl) (by omega))) fun a21 h21 => ?_
   refine sl_updx h21 (wn rfl) (ex_call (fun _ _ => by kernel_rfl) (h21.evs rfl) rfl) rfl rfl S15 (i := 2) rfl (fun b hb => mem_rdrM.1 hb) (rdpage_any x hx R m G n c ks (a / 448) (by omega) _ (S15.at_ (i := 2) rfl).1 (fun b hb => (S15.new _ (List.mem_of_getElem? (i := 2) rfl) b hb).2)) fun p26 a22 X22 h22 hF26 S22 => ?_
   replace S22 := St.rdrTrans (i := 2) (j := 2) S15 rfl S22 rfl
   refine ma h22 rfl rfl fun a23 h23 => ?_
   refine st_nil (go_then (st_seq (st_seq (st_reg ?_))))
   refine mv h23 rfl rfl fun a24 h24 => ?_
   refine sv h24 (ex_pnil Tryz.underlying146 (by kernel_rfl) (by kernel_rfl) (h24.ev rfl) (h24.ev rfl)) fun a25 h25 => ?_
   refine mv h25 rfl rfl fun a26 h26 => ?_
   apply sl_or h26 S22 29 rfl 7 36
   case hf =>
    intro gc29
    refine sy h26 rfl rfl rfl gc29 (ex_move (h26.ev rfl)) rfl rfl fun a27 h27 => ?_
    refine sy h27 rfl rfl rfl gc29 (ex_nilck ((h27.ev rfl).trans (ptrV_some gc29))) rfl rfl fun a28 h28 => ?_
    refine sy h28 rfl rfl rfl gc29 (ex_field (off := 1) (by kernel_rfl) (h28.ev rfl) rfl) rfl rfl fun a29 h29 => ?_
    refine sy h29 rfl rfl rfl gc29 (ex_load (by kernel_rfl) (h29.ev rfl) (box_cell (RdrOk.box_of (S22.at_ (i := 2) rfl).1 hF26.1 gc29) rfl)) rfl rfl fun a30 h30 => ?_
    refine sy h30 rfl rfl rfl gc29 (ex_move (h30.ev rfl)) rfl rfl fun a31 h31 => ?_
    refine sy h31 rfl rfl rfl gc29 (ex_lss (h31.ev rfl) (h31.ev rfl)) rfl rfl fun a32 h32 => ?_
    refine sv h32 (ex_pick_f (h32.ev rfl) gc29 (h32.ev rfl)) fun a33 h33 => ?_
    exact st_nil ⟨h33.mid (m := [(_, _), (_, _), (_, _), (_, _), (_, _), (_, _)]) rfl, S22⟩
   case ht =>
    intro gc29
    refine no h26 rfl rfl rfl gc29 rfl rfl fun a34 h34 => ?_
    refine no h34 rfl rfl rfl gc29 rfl rfl fun a35 h35 => ?_
    refine no h35 rfl rfl rfl gc29 rfl rfl fun a36 h36 => ?_
    refine no h36 rfl rfl rfl gc29 rfl rfl fun a37 h37 => ?_
    refine no h37 rfl rfl rfl gc29 rfl rfl fun a38 h38 => ?_
    refine no h38 rfl rfl rfl gc29 rfl rfl fun a39 h39 => ?_
    refine sv h39 (ex_pick_t (h39.ev rfl) gc29 (h39.ev rfl)) fun a40 h40 => ?_
    exact st_nil ⟨h40.mid (m := [(_, _), (_, _), (_, _), (_, _), (_, _), (_, _)]) rfl, S22⟩
   case h =>
    rintro a41 X41 ⟨h41, S41⟩
    refine st_nil (go_then ?_)
    refine st_if (h41.ev rfl) (fun hc1 => ?_) (fun hc1 => ?_)
    ·
     have hno : rcO x a aft = none := by
      unfold rcO rcIn
      rw [if_neg (by omega)]
      simp only [Int.toNat_natCast]
      cases hn : p26.1.isNone with
      | true => rw [RdrOk.none_of (S41.at_ (i := 2) rfl).1 hF26.1 hn]
      | false =>
       rw [RdrOk.some_of (S41.at_ (i := 2) rfl).1 hF26.1 hn]
       rw [hn, Bool.false_or, decide_eq_true_eq] at hc1
       simp only
       rw [if_pos hc1]
     refine st_seq (st_reg ?_)
     refine sv h41 (ex_loads (by kernel_rfl) (by kernel_rfl) (h41.ev rfl) (S41.cellsAll (i := 0) rfl)) fun a42 h42 => ?_
     refine sl_store0 h42 (wn rfl) ⟨rfl, rfl⟩ (h42.ev rfl) (h42.ev rfl) rfl (by kernel_rfl) S41 (i := 1) rfl rfl rfl fun X43 S43 => ?_
     refine ma h42 rfl rfl fun a44 h44 => ?_
     refine st_nil (go_then (wp_ret (ret_then ?_)))
     refine finct h44 rfl rfl rfl S43 (i := 1) rfl (by kernel_rfl) (by kernel_rfl) ?_
     exact ⟨(rec0, p26.2), (by rw [hno]; rfl), ⟨fun y hy => (by rw [hno] at hy; cases hy), fun y hy => hF26.2 y hy⟩, (S43.sub (.cons _ (.cons _ (.cons_cons _ .slnil))))⟩
    ·
     rw [Bool.or_eq_false_iff, decide_eq_false_iff_not] at hc1
     obtain ⟨hn, hsq⟩ := hc1
     have hpi := RdrOk.some_of (S41.at_ (i := 2) rfl).1 hF26.1 hn
     rw [hY] at hpi hsq
     have hrc := rc_some (aft := aft) (x := x) (sq := Y.1) (b := Y.2) h08 hpi hsq
     have hbd := pgIn_bd hpi
     refine wp_skip (go_then (st_seq (st_reg ?_)))
     refine mv h41 rfl rfl fun a45 h45 => ?_
     refine mv h45 rfl rfl fun a46 h46 => ?_
     refine mv h46 rfl rfl fun a47 h47 => ?_
     refine sv h47 (ex_nilck ((h47.ev rfl).trans (ptrV_some hn))) fun a48 h48 => ?_
     refine sv h48 (ex_field (off := 1) (by kernel_rfl) (h48.ev rfl) rfl) fun a49 h49 => ?_
     refine sv h49 (ex_load (by kernel_rfl) (h49.ev rfl) (by have q := RdrOk.box_of (S41.at_ (i := 2) rfl).1 hF26.1 hn; rw [hY] at q; exact box_cell q rfl)) fun a50 h50 => ?_
     refine sl_updx h50 (wn rfl) (ex_call (fun _ _ => by kernel_rfl) (h50.evs rfl) rfl) rfl rfl S41 (i := 2) rfl (fun b hb => mem_rdrM.1 hb) (rdbytes_any x hx R m G n c p26.2 a 12 Y.1 (by omega) (by omega) _ (S41.at_ (i := 2) rfl).1 (fun b hb => (S41.new _ (List.mem_of_getElem? (i := 2) rfl) b hb).2)) fun p45 a51 X51 h51 hF45 S51 => ?_
     replace S51 := St.rdrTrans (i := 2) (j := 2) S41 rfl S51 rfl
     refine mv h51 rfl rfl fun a52 h52 => ?_
     refine vx h52 rfl rfl rfl fun a53 h53 => ?_
     refine vx h53 rfl rfl rfl fun a54 h54 => ?_
     refine ma h54 rfl rfl fun a55 h55 => ?_
     refine ma h55 rfl rfl fun a56 h56 => ?_
     refine st_nil (go_then (st_seq (st_seq (st_reg ?_))))
     refine mv h56 rfl rfl fun a57 h57 => ?_
     refine sv h57 (ex_not (h57.ev rfl)) fun a58 h58 => ?_
     refine st_nil (go_then ?_)
     refine st_if (h58.ev rfl) (fun hc2 => ?_) (fun hc2 => ?_)
     ·
      have hno : rcO x a aft = none := by
       rw [hrc]
       cases hb : byO x Y.1 12 a with
       | none => rfl
       | some hd => rw [hb] at hc2; simp at hc2
      refine st_seq (st_reg ?_)
      refine sv h58 (ex_loads (by kernel_rfl) (by kernel_rfl) (h58.ev rfl) (S51.cellsAll (i := 0) rfl)) fun a59 h59 => ?_
      refine sl_store0 h59 (wn rfl) ⟨rfl, rfl⟩ (h59.ev rfl) (h59.ev rfl) rfl (by kernel_rfl) S51 (i := 1) rfl rfl rfl fun X60 S60 => ?_
      refine ma h59 rfl rfl fun a61 h61 => ?_
      refine st_nil (go_then (wp_ret (ret_then ?_)))
      refine finct h61 rfl rfl rfl S60 (i := 1) rfl (by kernel_rfl) (by kernel_rfl) ?_
      exact ⟨(rec0, p45), (by rw [hno]; rfl), ⟨fun y hy => (by rw [hno] at hy; cases hy), fun y hy => hF45 y (hF26.2 y hy)⟩, (S60.sub (.cons _ (.cons _ (.cons_cons _ .slnil))))⟩
     ·
      obtain ⟨hd, hhd⟩ : ∃ hd, byO x Y.1 12 a = some hd := Option.isSome_iff_exists.1 (by simpa using hc2)
      have hdl : hd.length = 12 := by_length _ _ _ _ hhd
      rw [hhd] at hrc
      simp only at hrc
      rw [hhd] at h58
      have hbs := bs_size hd
      obtain ⟨nn, hnn⟩ : ∃ y, nAt hd 0 2 = y := ⟨_, rfl⟩
      have hnb := nAt_bd hd 0 2
      have e02 : g16 hd 0 = nAt hd 0 2 := g16_nAt (by omega)
      rw [hnn] at hrc hnb e02
      have hm45 := hF45 _ hF26.1
      refine wp_skip (go_then (st_seq (st_reg ?_)))
      refine sv h58 (as_val (v' := .string (bs hd)) rfl (ex_move (h58.ev rfl))) fun a62 h62 => ?_
      refine sl_bytes h62 (wn rfl) ⟨rfl, rfl⟩ rfl Tryz.underlying9 Tryz.underlying130 Tryz.underlying5 (h62.ev rfl) S51 fun b52 cb52 a63 X63 gb52 zb52 h63 S63 => ?_
      replace S63 := S63.byEq (i := 0) (l' := hd) rfl (bl_bs _)
      refine sl_bel h63 (wn rfl) (ex_call (fun _ _ => by kernel_rfl) (h63.evs rfl) rfl) rfl rfl S63 (get16_any b52 0 _ _ hd _ (S63.at_ (i := 0) rfl) (by omega) (by omega)) fun a64 X64 h64 S64 => ?_
      rw [e02] at h64
      refine sv h64 (ex_convin (by kernel_rfl) Tryz.underlying3 (h64.ev rfl) (wrap_in (by omega))) fun a65 h65 => ?_
      refine ma h65 rfl rfl fun a66 h66 => ?_
      refine st_nil (go_then (st_seq (st_seq (st_reg ?_))))
      refine mv h66 rfl rfl fun a67 h67 => ?_
      refine sl_pure h67 (wn rfl) (ex_call (fun _ _ => by kernel_rfl) (h67.evs rfl) rfl) rfl rfl (logring_within_any _ _ _ _) fun a68 h68 => ?_
      refine sv h68 (ex_not (h68.ev rfl)) fun a69 h69 => ?_
      refine st_nil (go_then ?_)
      refine st_if (h69.ev rfl) (fun hc3 => ?_) (fun hc3 => ?_)
      ·
       have hno : rcO x a aft = none := by
        rw [hrc, if_pos (by simpa using hc3)]
       refine st_seq (st_reg ?_)
       refine sv h69 (ex_loads (by kernel_rfl) (by kernel_rfl) (h69.ev rfl) (S64.cellsAll (i := 1) rfl)) fun a70 h70 => ?_
       refine sl_store0 h70 (wn rfl) ⟨rfl, rfl⟩ (h70.ev rfl) (h70.ev rfl) rfl (by kernel_rfl) S64 (i := 2) rfl rfl rfl fun X71 S71 => ?_
       refine ma h70 rfl rfl fun a72 h72 => ?_
       refine st_nil (go_then (wp_ret (ret_then ?_)))
       refine finct h72 rfl rfl rfl S71 (i := 2) rfl (by kernel_rfl) (by kernel_rfl) ?_
       exact ⟨(rec0, p45), (by rw [hno]; rfl), ⟨fun y hy => (by rw [hno] at hy; cases hy), fun y hy => hF45 y (hF26.2 y hy)⟩, (S71.sub (.cons _ (.cons _ (.cons _ (.cons_cons _ .slnil)))))⟩
      ·
       have hin : inB nn 1 3000 = true := by simpa using hc3
       have hin2 := inB_true.1 hin
       rw [if_neg (by rw [hin]; decide)] at hrc
       have hsz : 12 + nn ≤ szR nn ∧ szR nn ≤ 3019 := by unfold szR; omega
       obtain ⟨zz, hzz⟩ : ∃ z : Nat, szR nn = z := ⟨(szR nn).toNat, by omega⟩
       rw [hzz, Int.toNat_natCast] at hrc
       rw [hzz] at hsz
       have hso : ∀ w, Calls Tryz.prog 83 #[.int .i64 nn] w fun e w' => e = .returned (.int .i64 (zz : Int)) ∧ w = w' := fun w => by rw [← hzz]; exact sizeOf_any nn w (by omega) (by omega)
       refine wp_skip (go_then (st_seq ?_))
       apply dr_flowA (m := 8) h69 (fun b => b = m) 0 [false, false, false, false, false, false, false, false, true, true, true, true, true] _ (by kernel_rfl)
       case h =>
        refine qv h69 (fun X hX => ex_move (h69.ev rfl)) fun a73 h73 => ?_
        refine qv h73 (fun X hX => ex_move (h73.ev rfl)) fun a74 h74 => ?_
        refine qv h74 (fun X hX => ex_move (h74.ev rfl)) fun a75 h75 => ?_
        refine sq_pure h75 (wn rfl) rfl rfl (fun X => (ex_call (fun _ _ => by kernel_rfl) (h75.evs rfl) rfl)) (fun X hX => hso _) fun a76 h76 => ?_
        refine qv h76 (fun X hX => ex_move (h76.ev rfl)) fun a77 h77 => ?_
        refine qv h77 (fun X hX => ex_nilck ((h77.ev rfl).trans (ptrV_some hn))) fun a78 h78 => ?_
        refine qv h78 (fun X hX => ex_field (off := 1) (by kernel_rfl) (h78.ev rfl) rfl) fun a79 h79 => ?_
        refine qv h79 (fun X hX => ex_load (by kernel_rfl) (h79.ev rfl) (by have q := RdrNo.box_of ((S64.growMap (i := 3) rfl hX).at_ (i := 3) rfl) hm45 hn; rw [hY] at q; exact box_cell q rfl)) fun a80 h80 => ?_
        refine sq_nil ?_
        apply na_app (k := 8) (deps := []) (R := RdrU _ _ _ _ _ _ _ _ _ _ _) h80 rfl rfl rfl RdrU.stable (fun X hX hΦ => lv_updR (ex_call (fun _ _ => by kernel_rfl) (h80.evs rfl) rfl) ((S64.grow hX).at_ (i := 3) rfl).1 (rdbytes_any x hx R m G n c p45 a zz Y.1 (by omega) (by omega) _ ((S64.grow hX).at_ (i := 3) rfl).1 (fun b hb => ((S64.grow hX).new _ (List.mem_of_getElem? (i := 3) rfl) b hb).2)) hX.size)
        intro v68 a81 h81
        apply na_step (k := 9) (deps := [8]) (R := PairU _ _) h81 rfl rfl rfl PairU.stable
        case hx => exact fun X hX hΦ => lv_told (RdrU.pair (told_get (k := 8) hΦ rfl rfl)) (ex_move (h81.ev rfl))
        case hst2 => exact PairU.kp
        intro v59 a82 h82
        apply na_step (k := 10) (deps := [9]) (R := ExtU0 _ _) h82 rfl rfl rfl ExtU0.stable
        case hx => exact fun X hX hΦ => lv_ext0 (fun p => ⟨_, _, rfl⟩) (told_get (k := 9) hΦ rfl rfl) (h82.ev rfl)
        case hst2 => exact ExtU0.kp
        intro v69 a83 h83
        apply na_step (k := 11) (deps := [9]) (R := ExtU1 _ _) h83 rfl rfl rfl ExtU1.stable
        case hx => exact fun X hX hΦ => lv_ext1 (fun p => ⟨_, _, rfl⟩) (told_get (k := 9) hΦ rfl rfl) (h83.ev rfl)
        case hst2 => exact ExtU1.kp
        intro v70 a84 h84
        apply na_step (k := 12) (deps := [10]) (R := ExtU0 _ _) h84 rfl rfl rfl ExtU0.stable
        case hx => exact fun X hX hΦ => lv_told (told_get (k := 10) hΦ rfl rfl) (ex_assign (h84.ev rfl))
        case hst2 => exact ExtU0.kp
        intro v13 a85 h85
        refine na_end fun X86 hX86 hΦ86 => ?_
        obtain ⟨p68, q86, hF68, S86⟩ := S64.growUpd (i := 3) rfl hX86 (told_all hΦ86 (k := 8) rfl)
        subst q86
        obtain ⟨p69, hG69, rfl⟩ := extU0 (told_all hΦ86 (k := 10) rfl)
        obtain ⟨p70, hG70, rfl⟩ := extU1 (told_all hΦ86 (k := 11) rfl)
        obtain ⟨p13, hG13, rfl⟩ := extU0 (told_all hΦ86 (k := 12) rfl)
        refine ma h85 rfl rfl fun a87 h87 => ?_
        refine st_nil (go_then (st_seq (st_seq (st_reg ?_))))
        refine mv h87 rfl rfl fun a88 h88 => ?_
        refine sv h88 (ex_not (h88.ev rfl)) fun a89 h89 => ?_
        refine st_nil (go_then ?_)
        refine st_if (h89.ev rfl) (fun hc4 => ?_) (fun hc4 => ?_)
        ·
         have hno : rcO x a aft = none := by
          rw [hrc]
          cases hb : byO x Y.1 zz a with
          | none => rfl
          | some hd => rw [hb] at hc4; simp at hc4
         refine st_seq (st_reg ?_)
         refine sv h89 (ex_loads (by kernel_rfl) (by kernel_rfl) (h89.ev rfl) (S86.cellsAll (i := 1) rfl)) fun a90 h90 => ?_
         refine sl_store0 h90 (wn rfl) ⟨rfl, rfl⟩ (h90.ev rfl) (h90.ev rfl) rfl (by kernel_rfl) S86 (i := 2) rfl rfl rfl fun X91 S91 => ?_
         refine ma h90 rfl rfl fun a92 h92 => ?_
         refine st_nil (go_then (wp_ret (ret_then ?_)))
         refine finct h92 rfl rfl rfl S91 (i := 2) rfl (by kernel_rfl) (by kernel_rfl) ?_
         exact ⟨(rec0, p68), (by rw [hno]; rfl), ⟨fun y hy => (by rw [hno] at hy; cases hy), fun y hy => hF68 y (hF45 y (hF26.2 y hy))⟩, (S91.sub (.cons _ (.cons _ (.cons _ (.cons_cons _ .slnil)))))⟩
        ·
         obtain ⟨wh, hwh⟩ : ∃ hd, byO x Y.1 zz a = some hd := Option.isSome_iff_exists.1 (by simpa using hc4)
         have hwl : wh.length = zz := by_length _ _ _ _ hwh
         rw [hwh] at hrc
         simp only at hrc
         rw [hwh] at h89
         have hwbs := bs_size wh
         obtain ⟨cb, hcb⟩ : ∃ y, (wh.drop 12).take nn.toNat = y := ⟨_, rfl⟩
         have hcl : (bs cb).size = nn.toNat := by rw [bs_size, ← hcb, List.length_take, List.length_drop]; omega
         rw [hcb] at hrc
         have hm68 := hF68 _ hm45
         refine wp_skip (go_then (st_seq ?_))
         apply dr_flow h89 [false, false, false, false, false, false, false, false, false, false, false, true] _ (by kernel_rfl)
         case h =>
          refine qv h89 (fun X hX => ex_move (h89.ev rfl)) fun a93 h93 => ?_
          refine qv h93 (fun X hX => ex_add (h93.ev rfl) (h93.ev rfl) (by omega)) fun a94 h94 => ?_
          refine qv h94 (fun X hX => ex_move (h94.ev rfl)) fun a95 h95 => ?_
          refine qv h95 (fun X hX => ex_nilck ((h95.ev rfl).trans (ptrV_some hn))) fun a96 h96 => ?_
          refine qv h96 (fun X hX => ex_field (off := 1) (by kernel_rfl) (h96.ev rfl) rfl) fun a97 h97 => ?_
          refine qv h97 (fun X hX => ex_load (by kernel_rfl) (h97.ev rfl) (by have q := RdrOk.box_of ((S86.grow hX).at_ (i := 3) rfl).1 hm68 hn; rw [hY] at q; exact box_cell q rfl)) fun a98 h98 => ?_
          refine qv h98 (fun X hX => as_val (v' := .string (bs wh)) rfl (ex_move (h98.ev rfl))) fun a99 h99 => ?_
          refine qv h99 (fun X hX => ex_move (h99.ev rfl)) fun a100 h100 => ?_
          refine qv h100 (fun X hX => as_val (v' := .int .i64 ((12 + nn.toNat : Nat) : Int)) (congrArg _ (by omega)) (ex_add (h100.ev rfl) (h100.ev rfl) (by omega))) fun a101 h101 => ?_
          refine qv h101 (fun X hX => as_val (v' := .string (bs cb)) (congrArg _ (by rw [bs_extract, Nat.add_sub_cancel_left, hcb])) (ex_sslice (l := 12) (h := (12 + nn.toNat)) Tryz.underlying9 (h101.ev rfl) (h101.ev rfl) (h101.ev rfl) (by omega) (by omega))) fun a102 h102 => ?_
          refine qv (v := recV ⟨(a : Int) + 1, Y.1, bs cb⟩) h102 (fun X hX => ex_build (zs := [.int .i64 0, .int .i64 0, .string ⟨#[]⟩]) (pl := [(0, 1), (1, 1), (2, 1)]) (by kernel_rfl) (by kernel_rfl) (h102.evs2 rfl) rfl rfl) fun a103 h103 => ?_
          refine sq_nil ?_
          apply nd_step (k := 11) (deps := []) (R := NewB _ (fun b => .pointer (some ⟨b, 0, none⟩)) _ _) h103 rfl rfl rfl NewB.stable (fun X hX hΦ => lv_new (ex_alloc (z := .agg #[.int .i64 0, .int .i64 0, .string ⟨#[]⟩]) (by kernel_rfl)) hX.size)
          intro v14 a104 h104
          refine nd_end fun X105 hX105 hΦ105 => ?_
          have S105 := S86.grow hX105
          have qv14 := told_all hΦ105 (k := 11) rfl
          obtain ⟨b14, rfl, gb14, qv14⟩ := qv14
          have S106 := S86.add hX105 (e := .box _ _ _) qv14 (fun b hb => by cases hb; exact ⟨gb14, Box.lt qv14⟩)
          refine sl_store0 h104 (wn rfl) ⟨rfl, rfl⟩ (h104.ev rfl) (h104.ev rfl) rfl (by kernel_rfl) S106 (i := 0) rfl rfl rfl fun X107 S107 => ?_
          refine st_nil (go_then (st_seq ?_))
          apply dr_flowA (m := 5) h104 (St.domAt S107 (i := 3) rfl) 0 [false, false, false, false, false, true] _ (by kernel_rfl)
          case h =>
           refine qv h104 (fun X hX => ex_loads (by kernel_rfl) (by kernel_rfl) (h104.ev rfl) ((S107.growO (i := 3) rfl hX).cellsAll (i := 0) rfl)) fun a108 h108 => ?_
           refine qv (v := recV ⟨(a : Int) + 1, Y.1, bs cb⟩) h108 (fun X hX => ex_loads (by kernel_rfl) (by kernel_rfl) (h108.ev rfl) ((S107.growO (i := 3) rfl hX).cellsAll (i := 0) rfl)) fun a109 h109 => ?_
           refine sq_bel h109 (wn rfl) rfl rfl (fun X => (ex_call (fun _ _ => by kernel_rfl) (h109.evs rfl) rfl)) (fun X hX => encoded_any ⟨(a : Int) + 1, Y.1, bs cb⟩ (by show 0 ≤ (a : Int) + 1; omega) (by show (a : Int) + 1 < _; omega) (by show (bs cb).size ≤ _; omega) _) fun a110 h110 => ?_
           refine qv h110 (fun X hX => as_val (v' := .string (bs wh)) rfl (ex_move (h110.ev rfl))) fun a111 h111 => ?_
           refine qv h111 (fun X hX => ex_seql (h111.ev rfl) (h111.ev rfl)) fun a112 h112 => ?_
           refine sq_nil ?_
           apply na_store (k := 5) (deps := []) (R := IsBox _ _ _) h112 rfl rfl IsBox.stable (fun X hX hΦ => lv_store0 rfl (h112.ev rfl) (h112.ev rfl) rfl (by kernel_rfl) ((S107.grow hX).at_ (i := 3) rfl) rfl rfl)
           intro vs5
           refine na_end fun X113 hX113 hΦ113 => ?_
           have S113 := S107.growBox (i := 3) (v := vs5) rfl hX113 (told_all hΦ113 (k := 5) rfl)
           refine ma h112 rfl rfl fun a114 h114 => ?_
           refine st_nil (go_then (wp_ret ?_))
           refine finct h114 rfl rfl rfl S113 (i := 3) rfl (by kernel_rfl) (by kernel_rfl) ?_
           refine ⟨(⟨(a : Int) + 1, Y.1, bs cb⟩, p68), ?_, ⟨fun y hy => ?_, fun y hy => hF68 y (hF45 y (hF26.2 y hy))⟩, (S113.sub (.cons _ (.cons _ (.cons _ (.cons _ (.cons_cons _ .slnil))))))⟩
           · have hd : (rcO x a aft).isSome = decide (bs (encR ⟨(a : Int) + 1, Y.1, bs cb⟩) = bs wh) := by
              rw [hrc]
              by_cases he : encR ⟨(a : Int) + 1, Y.1, bs cb⟩ = wh
              · rw [if_pos he, he]; simp
              · rw [if_neg he]
                have : ¬ bs (encR ⟨(a : Int) + 1, Y.1, bs cb⟩) = bs wh := fun h => he (by have := congrArg bl h; rwa [bl_bs, bl_bs] at this)
                simp [this]
             rw [hd]; rfl
           · rw [hrc] at hy
             split at hy
             · injection hy
             · cases hy
          case hB => kernel_rfl
          case hst => rfl
         case hB => kernel_rfl
         case hst => rfl
       case hB => kernel_rfl
       case hst => rfl
end Go.Proofs.YtmlilplbdpjfcaaGreatDoor
namespace Go.Proofs.YtmlilplbdpjfcaaGreatDoor
set_option linter.unusedVariables false
set_option linter.unusedSimpArgs false
set_option maxRecDepth 4000
open Go.RowKit Go.Sort
def afO (x : RdrP) (y : RecP) : Option RecP := afIn x.s x.pg x.top y
theorem ex_pnnil {P : Program} {ρ : Operand → Value} {X : World} {d : Option Tmp} {ty : TypeId} {ps : String} {af : Array Edge} {g : Option (Nat × Bool)} {x y : Operand} {t t' e : TypeId} {o : Option Nat} (ht : P.underlying t = some (.pointer e)) (hq : (P.info? e).isSome = true) (hgd : P.eqGuardType P.depth t = false) (hx : ρ x = ptrV o) (hy : ρ y = .pointer none) :
 (execOp ρ ⟨d, .binOp .neq t x y t', ty, ps, af, g⟩).run P X = .ok (.value (.bool (!o.isNone))) X := by
 obtain ⟨q, hq⟩ := Option.isSome_iff_exists.1 hq
 have h : ∀ d : Nat, (Op.equalIn (d + 1) t (ptrV o) (.pointer none)).run P X = .ok o.isNone X := fun d => by
  cases o <;> simp [ptrV, Op.equalIn, run_underlying ht, sizeOf, typeInfo, hq]
 have h2 : (binOp .neq t (ptrV o) (.pointer none)).run P X = .ok (.bool (!o.isNone)) X := by
  simp only [binOp]
  simp [Op.equal, Op.maxDepth, h 9999]
 simp [execOp, hx, hy, eqGuard, hgd, h2]
theorem af_first {x : RdrP} {y z : RecP} (h : rcO x (bhR y) y.s = some z) (hc : (bhR y % 448 == 0 || z.s == y.s) = true) : afO x y = some z := by
 unfold rcO at h
 unfold afO afIn
 rw [h, Option.filter_some, if_pos hc]
theorem af_none {x : RdrP} {y : RecP} (h : ∀ z, rcO x (bhR y) y.s = some z → (bhR y % 448 == 0 || z.s == y.s) = false) : (rcIn x.s x.pg x.top (bhR y) y.s).filter (fun z => bhR y % 448 == 0 || z.s == y.s) = none := by
 unfold rcO at h
 cases hr : rcIn x.s x.pg x.top (bhR y) y.s with
 | none => rfl
 | some z => rw [Option.filter_some, if_neg (by rw [h z hr]; decide)]
theorem af_zero {x : RdrP} {y : RecP} (h : ∀ z, rcO x (bhR y) y.s = some z → (bhR y % 448 == 0 || z.s == y.s) = false) (hb : bhR y % 448 = 0) : afO x y = none := by
 unfold afO afIn
 rw [af_none h]
 simp only
 rw [if_pos hb]
theorem af_second {x : RdrP} {y : RecP} (h : ∀ z, rcO x (bhR y) y.s = some z → (bhR y % 448 == 0 || z.s == y.s) = false) (hb : ¬ bhR y % 448 = 0) : afO x y = match rcO x (nxtR (bhR y)) y.s with
 | none => none
 | some z => if y.s < z.s then some z else
  match pgIn x.s x.pg x.top ((bhR y).toNat / 448) with
  | none => none
  | some (_, b) => if (b.length : Int) = bhR y % 448 then some z else none := by
 unfold afO afIn
 rw [af_none h]
 simp only
 rw [if_neg hb]
 rfl
theorem rdafter_any (x : RdrP) (hx : RdrB x) (R m G n c : Nat) (ks : List (Nat × Option Nat)) (y : RecP) (hy : 1 ≤ y.l ∧ y.l ≤ 500000000 ∧ y.b.size ≤ 3000) (w : World) (hok : RdrOk x R m G n c ks w) (hM : ∀ b, rdrD R m G ks b → b < w.heap.size) :
 Calls Tryz.prog 71 #[.pointer (some ⟨R, 0, none⟩), recV y] w fun r w' => ∃ p : RecP × List (Nat × Option Nat), r = .returned (.tuple #[recV p.1, .bool (afO x y).isSome]) ∧ ((∀ z, afO x y = some z → p.1 = z) ∧ ∀ z ∈ ks, z ∈ p.2) ∧ St (rdrM R m G ks) w w' [rdrE x R m G n c ks w p.2] := by
 have hn : 0 < n := by have := hok.n; have := hx.pg; omega
 have hszb : 12 ≤ szR y.b.size ∧ szR y.b.size ≤ 3020 := by unfold szR; omega
 have hbh : bhR y = y.l - 1 + szR y.b.size := rfl
 have hnx := nxtR_in (p := bhR y)
 have htm : (bhR y).tmod 448 = bhR y % 448 := Int.tmod_eq_emod_of_nonneg (by omega)
 have hbg : ∀ w, Calls Tryz.prog 113 #[.int .i64 (bhR y)] w fun e w' => e = .returned (.bool (bhR y % 448 == 0)) ∧ w = w' := fun w => by
  have q := begins_any (bhR y) w
  rw [htm] at q; exact q
 refine st_enter (N := 74) Tryz.func71 rfl rfl rfl (fun a0 h0 => ?_)
 have S0 := (St.initInv ⟨hok, RdrRel.refl⟩ (fun b hb => ⟨mem_rdrM.2 hb, hM b hb⟩) : St (rdrM R m G ks) w w [rdrE x R m G n c ks w ks])
 refine st_seq (st_reg ?_)
 refine nb h0 rfl rfl S0 fun b3 a1 X1 gb3 h1 S1 => ?_
 refine na (.agg #[.int .i64 0, .int .i64 0, .string ⟨#[]⟩]) h1 rfl S1 fun b4 a2 X2 gb4 h2 S2 => ?_
 refine ma h2 rfl rfl fun a3 h3 => ?_
 refine nsr ?_
 refine sv (v := recV y) h3 (ex_loads (by kernel_rfl) (by kernel_rfl) (h3.ev rfl) (S2.cellsAll (i := 1) rfl)) fun a4 h4 => ?_
 refine sl_bel h4 (wn rfl) (ex_call (fun _ _ => by kernel_rfl) (h4.evs rfl) rfl) rfl rfl S2 (behind_any y _ (by omega) (by omega) (by omega)) fun a5 X5 h5 S5 => ?_
 refine ma h5 rfl rfl fun a6 h6 => ?_
 refine st_nil (go_then (st_seq (st_seq (st_reg ?_))))
 refine mv h6 rfl rfl fun a7 h7 => ?_
 refine mv h7 rfl rfl fun a8 h8 => ?_
 refine vf h8 1 1 rfl rfl rfl fun a9 h9 => ?_
 refine vl h9 S5 1 rfl rfl rfl rfl fun a10 h10 => ?_
 refine sl_updx h10 (wn rfl) (ex_call (fun _ _ => by kernel_rfl) (h10.evs rfl) rfl) rfl rfl S5 (i := 2) rfl (fun b hb => mem_rdrM.1 hb) (rdrecord_any x hx R m G n c ks (bhR y) y.s (by omega) _ (S5.at_ (i := 2) rfl).1 (fun b hb => (S5.new _ (List.mem_of_getElem? (i := 2) rfl) b hb).2)) fun p19 a11 X11 h11 hF19 S11 => ?_
 replace S11 := St.rdrTrans (i := 2) (j := 2) S5 rfl S11 rfl
 refine mv h11 rfl rfl fun a12 h12 => ?_
 refine vx h12 rfl rfl rfl fun a13 h13 => ?_
 refine vx h13 rfl rfl rfl fun a14 h14 => ?_
 refine na (.agg #[.int .i64 0, .int .i64 0, .string ⟨#[]⟩]) h14 rfl S11 fun b7 a15 X15 gb7 h15 S15 => ?_
 refine sl_store0 h15 (wn rfl) ⟨rfl, rfl⟩ (h15.ev rfl) (h15.ev rfl) rfl (by kernel_rfl) S15 (i := 0) rfl rfl rfl fun X16 S16 => ?_
 refine ma h15 rfl rfl fun a17 h17 => ?_
 refine nsr ?_
 refine mv h17 rfl rfl fun a18 h18 => ?_
 refine mv h18 rfl rfl fun a19 h19 => ?_
 apply sl_and h19 S16 23 rfl 10 33
 case ht =>
  intro gc23
  refine sy h19 rfl rfl rfl gc23 (ex_move (h19.ev rfl)) rfl rfl fun a20 h20 => ?_
  refine sl_pure h20 (wanted_yes h20 _ rfl rfl rfl gc23) (ex_call (fun _ _ => by kernel_rfl) (h20.evs rfl) rfl) rfl rfl (hbg _) fun a21 h21 => ?_
  refine sy h21 rfl rfl rfl gc23 (ex_move (h21.ev rfl)) rfl rfl fun a22 h22 => ?_
  apply sl_or h22 S16 26 rfl 6 32
  case hf =>
   intro gc26
   refine sy h22 rfl rfl rfl gc26 (ex_field (off := 1) (j := 1) (by kernel_rfl) (h22.ev rfl) rfl) rfl rfl fun a23 h23 => ?_
   refine sy h23 rfl rfl rfl gc26 (ex_load (by kernel_rfl) (h23.ev rfl) (S16.cell (i := 0) rfl rfl)) rfl rfl fun a24 h24 => ?_
   refine sy h24 rfl rfl rfl gc26 (ex_field (off := 1) (j := 1) (by kernel_rfl) (h24.ev rfl) rfl) rfl rfl fun a25 h25 => ?_
   refine sy h25 rfl rfl rfl gc26 (ex_load (by kernel_rfl) (h25.ev rfl) (S16.cell (i := 2) rfl rfl)) rfl rfl fun a26 h26 => ?_
   refine sy h26 rfl rfl rfl gc26 (ex_eql (h26.ev rfl) (h26.ev rfl)) rfl rfl fun a27 h27 => ?_
   refine sy h27 rfl rfl rfl gc23 (ex_pick_f (h27.ev rfl) gc26 (h27.ev rfl)) rfl rfl fun a28 h28 => ?_
   exact st_nil ⟨h28.mid (m := [(_, _), (_, _), (_, _), (_, _), (_, _)]) rfl, S16⟩
  case ht =>
   intro gc26
   refine no h22 rfl rfl rfl gc26 rfl rfl fun a29 h29 => ?_
   refine no h29 rfl rfl rfl gc26 rfl rfl fun a30 h30 => ?_
   refine no h30 rfl rfl rfl gc26 rfl rfl fun a31 h31 => ?_
   refine no h31 rfl rfl rfl gc26 rfl rfl fun a32 h32 => ?_
   refine no h32 rfl rfl rfl gc26 rfl rfl fun a33 h33 => ?_
   refine sy h33 rfl rfl rfl gc23 (ex_pick_t (h33.ev rfl) gc26 (h33.ev rfl)) rfl rfl fun a34 h34 => ?_
   exact st_nil ⟨h34.mid (m := [(_, _), (_, _), (_, _), (_, _), (_, _)]) rfl, S16⟩
  case h =>
   rintro a35 X35 ⟨h35, S35⟩
   refine sv h35 (ex_pick_t (h35.ev rfl) gc23 (h35.ev rfl)) fun a36 h36 => ?_
   exact st_nil ⟨h36.mid (m := [(_, _), (_, _), (_, _), (_, _)]) rfl, S35⟩
 case hf =>
  intro gc23
  refine no h19 rfl rfl rfl gc23 rfl rfl fun a37 h37 => ?_
  refine no h37 rfl rfl rfl gc23 rfl rfl fun a38 h38 => ?_
  refine no h38 rfl rfl rfl gc23 rfl rfl fun a39 h39 => ?_
  refine sl_no h39 (wanted_not h39 _ rfl rfl rfl) rfl rfl fun a40 h40 => ?_
  refine sl_no h40 (wanted_not h40 _ rfl rfl rfl) rfl rfl fun a41 h41 => ?_
  refine sl_no h41 (wanted_not h41 _ rfl rfl rfl) rfl rfl fun a42 h42 => ?_
  refine sl_no h42 (wanted_not h42 _ rfl rfl rfl) rfl rfl fun a43 h43 => ?_
  refine sl_no h43 (wanted_not h43 _ rfl rfl rfl) rfl rfl fun a44 h44 => ?_
  refine no h44 rfl rfl rfl gc23 rfl rfl fun a45 h45 => ?_
  refine sv h45 (ex_pick_f (h45.ev rfl) gc23 (h45.ev rfl)) fun a46 h46 => ?_
  exact st_nil ⟨h46.mid (m := [(_, _), (_, _), (_, _), (_, _), (_, _), (_, _), (_, _), (_, _), (_, _)]) rfl, S16⟩
 case h =>
  rintro a47 X47 ⟨h47, S47⟩
  refine st_nil (go_then ?_)
  refine st_if (h47.ev rfl) (fun hc0 => ?_) (fun hc0 => ?_)
  ·
   rw [Bool.and_eq_true] at hc0
   obtain ⟨z, hz⟩ := Option.isSome_iff_exists.1 hc0.1
   have hpz : p19.1 = z := hF19.1 z hz
   have haf : afO x y = some z := af_first hz (by rw [← hpz]; exact hc0.2)
   refine st_seq (st_reg ?_)
   refine sv h47 (ex_loads (by kernel_rfl) (by kernel_rfl) (h47.ev rfl) (S47.cellsAll (i := 0) rfl)) fun a48 h48 => ?_
   refine sl_store0 h48 (wn rfl) ⟨rfl, rfl⟩ (h48.ev rfl) (h48.ev rfl) rfl (by kernel_rfl) S47 (i := 1) rfl rfl rfl fun X49 S49 => ?_
   refine ma h48 rfl rfl fun a50 h50 => ?_
   refine st_nil (go_then (wp_ret (ret_then ?_)))
   refine finct h50 rfl rfl rfl S49 (i := 1) rfl (by kernel_rfl) (by kernel_rfl) ?_
   exact ⟨p19, (by rw [haf]; rfl), ⟨fun u hu => (by rw [haf] at hu; injection hu with hu; rw [← hu]; exact hpz), hF19.2⟩, (S49.sub (.cons _ (.cons _ (.cons _ (.cons_cons _ .slnil)))))⟩
  ·
   have hfst : ∀ z, rcO x (bhR y) y.s = some z → (bhR y % 448 == 0 || z.s == y.s) = false := fun z hz => by
    rw [hz, Option.isSome_some, Bool.true_and, hF19.1 z hz] at hc0
    exact hc0
   refine wp_skip (go_then (st_seq (st_seq (st_reg ?_))))
   refine mv h47 rfl rfl fun a51 h51 => ?_
   refine sl_pure h51 (wn rfl) (ex_call (fun _ _ => by kernel_rfl) (h51.evs rfl) rfl) rfl rfl (hbg _) fun a52 h52 => ?_
   refine st_nil (go_then ?_)
   refine st_if (h52.ev rfl) (fun hc1 => ?_) (fun hc1 => ?_)
   ·
    have haf : afO x y = none := af_zero hfst (eq_of_beq hc1)
    refine st_seq (st_reg ?_)
    refine sv (v := recV rec0) h52 (ex_build (zs := [.int .i64 0, .int .i64 0, .string ⟨#[]⟩]) (pl := [(0, 1), (1, 1), (2, 1)]) (by kernel_rfl) (by kernel_rfl) (h52.evs2 rfl) rfl rfl) fun a53 h53 => ?_
    refine sl_store0 h53 (wn rfl) ⟨rfl, rfl⟩ (h53.ev rfl) (h53.ev rfl) rfl (by kernel_rfl) S47 (i := 1) rfl rfl rfl fun X54 S54 => ?_
    refine ma h53 rfl rfl fun a55 h55 => ?_
    refine st_nil (go_then (wp_ret (ret_then ?_)))
    refine finct h55 rfl rfl rfl S54 (i := 1) rfl (by kernel_rfl) (by kernel_rfl) ?_
    exact ⟨(rec0, p19.2), (by rw [haf]; rfl), ⟨fun u hu => (by rw [haf] at hu; cases hu), hF19.2⟩, (S54.sub (.cons _ (.cons _ (.cons _ (.cons_cons _ .slnil)))))⟩
   ·
    have haf := af_second hfst (by simpa using hc1)
    refine wp_skip (go_then (st_seq ?_))
    apply dr_flowM h52 (fun b => b = m) [(5, (fun b => b = m))] [(10, 98)] [false, false, false, false, false, true, true, true, true, true, true] _ (by kernel_rfl) (all1 (fun b hb => hb))
    case h =>
     refine qv h52 (fun X hX => ex_move (h52.ev rfl)) fun a56 h56 => ?_
     refine qv h56 (fun X hX => ex_move (h56.ev rfl)) fun a57 h57 => ?_
     refine sq_pure h57 (wn rfl) rfl rfl (fun X => (ex_call (fun _ _ => by kernel_rfl) (h57.evs rfl) rfl)) (fun X hX => next_any _ _ (by omega) (by omega)) fun a58 h58 => ?_
     refine qv h58 (fun X hX => ex_field (off := 1) (j := 1) (by kernel_rfl) (h58.ev rfl) rfl) fun a59 h59 => ?_
     refine qv h59 (fun X hX => ex_load (by kernel_rfl) (h59.ev rfl) ((S47.growMap (i := 3) rfl hX).cell (i := 2) rfl rfl)) fun a60 h60 => ?_
     refine sq_nil ?_
     apply nm_call (k := 5) (deps := []) (R := RdrU _ _ _ _ _ _ _ _ _ _ _) h60 rfl rfl rfl rfl RdrU.stable (all1 (RdrU.newT hn (by unfold rdrTy; decide)))
     case hx => exact fun X hX hΦ => lv_updR (ex_call (fun _ _ => by kernel_rfl) (h60.evs rfl) rfl) ((S47.grow hX).at_ (i := 3) rfl).1 (rdrecord_any x hx R m G n c p19.2 (nxtR (bhR y)) y.s (by omega) _ ((S47.grow hX).at_ (i := 3) rfl).1 (fun b hb => ((S47.grow hX).new _ (List.mem_of_getElem? (i := 3) rfl) b hb).2)) hX.size
     intro v44 a61 h61
     apply nm_step (O := (fun b => b = m)) (k := 6) (deps := [5]) (R := PairU _ _) h61 rfl rfl rfl (all1 (fun b hb => hb)) PairU.stable (all1 PairU.kp) (all1 PairU.newT)
     case hx => exact fun X hX hΦ => lv_told (RdrU.pair (told_get (k := 5) hΦ rfl rfl)) (ex_move (h61.ev rfl))
     intro v38 a62 h62
     apply nm_step (O := (fun b => b = m)) (k := 7) (deps := [6]) (R := ExtU0 _ _) h62 rfl rfl rfl (all1 (fun b hb => hb)) ExtU0.stable (all1 ExtU0.kp) (all1 ExtU0.newT)
     case hx => exact fun X hX hΦ => lv_ext0 (fun p => ⟨_, _, rfl⟩) (told_get (k := 6) hΦ rfl rfl) (h62.ev rfl)
     intro v45 a63 h63
     apply nm_step (O := (fun b => b = m)) (k := 8) (deps := [6]) (R := ExtU1 _ _) h63 rfl rfl rfl (all1 (fun b hb => hb)) ExtU1.stable (all1 ExtU1.kp) (all1 ExtU1.newT)
     case hx => exact fun X hX hΦ => lv_ext1 (fun p => ⟨_, _, rfl⟩) (told_get (k := 6) hΦ rfl rfl) (h63.ev rfl)
     intro v46 a64 h64
     apply nm_step (O := (fun b => b = m)) (k := 9) (deps := []) (R := NewAny _ 3 _) h64 rfl rfl rfl (all1 (fun b hb => hb)) NewAny.stable (all1 (NewAny.kpO (fun b hb => by rw [hb]; exact (S47.new _ (List.mem_of_getElem? (i := 3) rfl) m (.inr (.inl rfl))).2))) (all1 NewAny.newT)
     case hx => exact fun X hX hΦ => lv_any (ex_alloc (z := .agg #[.int .i64 0, .int .i64 0, .string ⟨#[]⟩]) (by kernel_rfl)) hX.size rfl
     intro v9 a65 h65
     apply nm_store (k := 10) (deps := [7, 9]) (kx := 9) (x := 9) (y := 45) (Y := slotY 45) h65 rfl ⟨rfl, rfl⟩ rfl (all1 (fun b hb => by rw [hb]; exact (S47.new _ (List.mem_of_getElem? (i := 3) rfl) m (.inr (.inl rfl))).2)) ⟨rfl, rfl⟩ (h65.slot 45 _ rfl) (slotY_dep (ky := 7) ⟨rfl, rfl⟩) rfl rfl (n := 3) (by kernel_rfl) (all1 (by show (5 : Nat) ∉ [7, 9]; decide))
     case hx =>
      intro X hX hΦ
      obtain ⟨p, _, e⟩ := extU0 (told_get (k := 7) hΦ rfl rfl)
      rw [e]
      exact ⟨(told_get (k := 9) hΦ rfl rfl), rfl, rfl⟩
     intro vs10
     refine nm_end (O := (fun b => b = m)) (all1 (fun b hb => hb)) fun X66 hX66 hΦ66 => ?_
     obtain ⟨p45, hG45, rfl⟩ := extU0 (told_all hΦ66 (k := 7) rfl)
     obtain ⟨p46, hG46, rfl⟩ := extU1 (told_all hΦ66 (k := 8) rfl)
     obtain ⟨b9, rfl, gb9, qb9⟩ := StoY.slot (v := vs10) h65 rfl rfl (told_all hΦ66 (k := 10) rfl)
     obtain ⟨p44, q66, hF44, S66⟩ := S47.growUpd1 (i := 3) rfl hX66 (told_all hΦ66 (k := 5) rfl) hn qb9 gb9 (by unfold rdrTy; decide)
     subst q66
     refine ma h65 rfl rfl fun a67 h67 => ?_
     refine st_nil (go_then (st_seq (st_seq (st_reg ?_))))
     refine mv h67 rfl rfl fun a68 h68 => ?_
     refine sv h68 (ex_not (h68.ev rfl)) fun a69 h69 => ?_
     refine st_nil (go_then ?_)
     refine st_if (h69.ev rfl) (fun hc2 => ?_) (fun hc2 => ?_)
     ·
      have haf2 : afO x y = none := by
       rw [haf]
       cases hr : rcO x (nxtR (bhR y)) y.s with
       | none => rfl
       | some z => rw [hr] at hc2; simp at hc2
      refine st_seq (st_reg ?_)
      refine sv h69 (ex_loads (by kernel_rfl) (by kernel_rfl) (h69.ev rfl) (S66.cellsAll (i := 0) rfl)) fun a70 h70 => ?_
      refine sl_store0 h70 (wn rfl) ⟨rfl, rfl⟩ (h70.ev rfl) (h70.ev rfl) rfl (by kernel_rfl) S66 (i := 2) rfl rfl rfl fun X71 S71 => ?_
      refine ma h70 rfl rfl fun a72 h72 => ?_
      refine st_nil (go_then (wp_ret (ret_then ?_)))
      refine finct h72 rfl rfl rfl S71 (i := 2) rfl (by kernel_rfl) (by kernel_rfl) ?_
      exact ⟨(p45.1, p44.2), (by rw [haf2]; rfl), ⟨fun u hu => (by rw [haf2] at hu; cases hu), fun u hu => hF44.2 u (hF19.2 u hu)⟩, (S71.sub (.cons _ (.cons _ (.cons _ (.cons _ (.cons_cons _ .slnil))))))⟩
     ·
      obtain ⟨z, hz⟩ : ∃ z, rcO x (nxtR (bhR y)) y.s = some z := Option.isSome_iff_exists.1 (by simpa using hc2)
      have hpz : p45.1 = z := hG45.1 z hz
      rw [hz] at haf
      simp only at haf
      refine wp_skip (go_then (st_seq (st_reg ?_)))
      refine mv h69 rfl rfl fun a73 h73 => ?_
      refine mv h73 rfl rfl fun a74 h74 => ?_
      refine sv h74 (as_val (v' := .int .i64 (((bhR y).toNat / 448 : Nat) : Int)) (congrArg _ (by omega)) (ex_quo (h74.ev rfl) (h74.ev rfl) (by omega))) fun a75 h75 => ?_
      refine sl_updx h75 (wn rfl) (ex_call (fun _ _ => by kernel_rfl) (h75.evs rfl) rfl) rfl rfl S66 (i := 4) rfl (fun b hb => mem_rdrM.1 hb) (rdpage_any x hx R m G n c p44.2 ((bhR y).toNat / 448) (by omega) _ (S66.at_ (i := 4) rfl).1 (fun b hb => (S66.new _ (List.mem_of_getElem? (i := 4) rfl) b hb).2)) fun p53 a76 X76 h76 hF53 S76 => ?_
      replace S76 := St.rdrTrans (i := 4) (j := 4) S66 rfl S76 rfl
      refine ma h76 rfl rfl fun a77 h77 => ?_
      refine st_nil (go_then (st_seq ?_))
      apply dr_flowA (m := 20) h77 (St.domAt S76 (i := 2) rfl) 0 [false, false, false, false, false, false, false, false, false, false, false, false, false, false, false, false, false, false, false, false, true] _ (by kernel_rfl)
      case h =>
       refine qv h77 (fun X hX => ex_loads (by kernel_rfl) (by kernel_rfl) (h77.ev rfl) ((S76.growO (i := 2) rfl hX).cellsAll (i := 0) rfl)) fun a78 h78 => ?_
       refine qv h78 (fun X hX => ex_field (off := 1) (j := 1) (by kernel_rfl) (h78.ev rfl) rfl) fun a79 h79 => ?_
       refine qv h79 (fun X hX => ex_load (by kernel_rfl) (h79.ev rfl) ((S76.growO (i := 2) rfl hX).cell (i := 0) rfl rfl)) fun a80 h80 => ?_
       refine qv h80 (fun X hX => ex_field (off := 1) (j := 1) (by kernel_rfl) (h80.ev rfl) rfl) fun a81 h81 => ?_
       refine qv h81 (fun X hX => ex_load (by kernel_rfl) (h81.ev rfl) ((S76.growO (i := 2) rfl hX).cell (i := 3) rfl rfl)) fun a82 h82 => ?_
       refine qv h82 (fun X hX => ex_gtr (h82.ev rfl) (h82.ev rfl)) fun a83 h83 => ?_
       refine qv h83 (fun X hX => ex_move (h83.ev rfl)) fun a84 h84 => ?_
       apply sq_or h84 60 rfl 13 73
       case hf =>
        intro gc60
        refine sq_val h84 (wanted_yes h84 _ rfl rfl rfl gc60) rfl rfl (fun X hX => (ex_move (h84.ev rfl))) fun a85 h85 => ?_
        refine sq_val h85 (wanted_yes h85 _ rfl rfl rfl gc60) rfl rfl (fun X hX => (ex_pnnil Tryz.underlying146 (by kernel_rfl) (by kernel_rfl) (h85.ev rfl) (h85.ev rfl))) fun a86 h86 => ?_
        refine sq_val h86 (wanted_yes h86 _ rfl rfl rfl gc60) rfl rfl (fun X hX => (ex_move (h86.ev rfl))) fun a87 h87 => ?_
        apply sq_and h87 63 rfl 9 72
        case ht =>
         intro gc63
         refine sq_val h87 (wanted_yes h87 _ rfl rfl rfl gc63) rfl rfl (fun X hX => (ex_move (h87.ev rfl))) fun a88 h88 => ?_
         refine sq_val h88 (wanted_yes h88 _ rfl rfl rfl gc63) rfl rfl (fun X hX => (ex_nilck ((h88.ev rfl).trans (ptrV_some (by simpa using gc63))))) fun a89 h89 => ?_
         refine sq_val h89 (wanted_yes h89 _ rfl rfl rfl gc63) rfl rfl (fun X hX => (ex_field (off := 2) (by kernel_rfl) (h89.ev rfl) rfl)) fun a90 h90 => ?_
         refine sq_val h90 (wanted_yes h90 _ rfl rfl rfl gc63) rfl rfl (fun X hX => (ex_load (by kernel_rfl) (h90.ev rfl) (box_cell (RdrOk.box_of ((S76.growO (i := 2) rfl hX).at_ (i := 4) rfl).1 hF53.1 (by simpa using gc63)) rfl))) fun a91 h91 => ?_
         refine sq_val h91 (wanted_yes h91 _ rfl rfl rfl gc63) rfl rfl (fun X hX => (ex_slen Tryz.underlying9 (h91.ev rfl))) fun a92 h92 => ?_
         refine sq_val h92 (wanted_yes h92 _ rfl rfl rfl gc63) rfl rfl (fun X hX => (ex_move (h92.ev rfl))) fun a93 h93 => ?_
         refine sq_val h93 (wanted_yes h93 _ rfl rfl rfl gc63) rfl rfl (fun X hX => (ex_rem (h93.ev rfl) (h93.ev rfl) ⟨by omega, by omega⟩)) fun a94 h94 => ?_
         refine sq_val h94 (wanted_yes h94 _ rfl rfl rfl gc63) rfl rfl (fun X hX => (ex_eql (h94.ev rfl) (h94.ev rfl))) fun a95 h95 => ?_
         refine sq_val h95 (wanted_yes h95 _ rfl rfl rfl gc60) rfl rfl (fun X hX => (ex_pick_t (h95.ev rfl) gc63 (h95.ev rfl))) fun a96 h96 => ?_
         exact sq_nil (h96.mid (m := [(_, _), (_, _), (_, _), (_, _), (_, _), (_, _), (_, _), (_, _)]) rfl)
        case hf =>
         intro gc63
         refine qo h87 rfl rfl rfl gc63 rfl rfl fun a97 h97 => ?_
         refine qo h97 rfl rfl rfl gc63 rfl rfl fun a98 h98 => ?_
         refine qo h98 rfl rfl rfl gc63 rfl rfl fun a99 h99 => ?_
         refine qo h99 rfl rfl rfl gc63 rfl rfl fun a100 h100 => ?_
         refine qo h100 rfl rfl rfl gc63 rfl rfl fun a101 h101 => ?_
         refine qo h101 rfl rfl rfl gc63 rfl rfl fun a102 h102 => ?_
         refine qo h102 rfl rfl rfl gc63 rfl rfl fun a103 h103 => ?_
         refine qo h103 rfl rfl rfl gc63 rfl rfl fun a104 h104 => ?_
         refine sq_val h104 (wanted_yes h104 _ rfl rfl rfl gc60) rfl rfl (fun X hX => (ex_pick_f (h104.ev rfl) gc63 (h104.ev rfl))) fun a105 h105 => ?_
         exact sq_nil (h105.mid (m := [(_, _), (_, _), (_, _), (_, _), (_, _), (_, _), (_, _), (_, _)]) rfl)
        case h =>
         intro a106 h106
         refine qv h106 (fun X hX => ex_pick_f (h106.ev rfl) gc60 (h106.ev rfl)) fun a107 h107 => ?_
         exact sq_nil (h107.mid (m := [(_, _), (_, _), (_, _), (_, _)]) rfl)
       case ht =>
        intro gc60
        refine qo h84 rfl rfl rfl gc60 rfl rfl fun a108 h108 => ?_
        refine qo h108 rfl rfl rfl gc60 rfl rfl fun a109 h109 => ?_
        refine qo h109 rfl rfl rfl gc60 rfl rfl fun a110 h110 => ?_
        refine sq_no h110 (wanted_not h110 _ rfl rfl rfl) rfl rfl fun a111 h111 => ?_
        refine sq_no h111 (wanted_not h111 _ rfl rfl rfl) rfl rfl fun a112 h112 => ?_
        refine sq_no h112 (wanted_not h112 _ rfl rfl rfl) rfl rfl fun a113 h113 => ?_
        refine sq_no h113 (wanted_not h113 _ rfl rfl rfl) rfl rfl fun a114 h114 => ?_
        refine sq_no h114 (wanted_not h114 _ rfl rfl rfl) rfl rfl fun a115 h115 => ?_
        refine sq_no h115 (wanted_not h115 _ rfl rfl rfl) rfl rfl fun a116 h116 => ?_
        refine sq_no h116 (wanted_not h116 _ rfl rfl rfl) rfl rfl fun a117 h117 => ?_
        refine sq_no h117 (wanted_not h117 _ rfl rfl rfl) rfl rfl fun a118 h118 => ?_
        refine qo h118 rfl rfl rfl gc60 rfl rfl fun a119 h119 => ?_
        refine qv h119 (fun X hX => ex_pick_t (h119.ev rfl) gc60 (h119.ev rfl)) fun a120 h120 => ?_
        exact sq_nil (h120.mid (m := [(_, _), (_, _), (_, _), (_, _), (_, _), (_, _), (_, _), (_, _), (_, _), (_, _), (_, _), (_, _)]) rfl)
       case h =>
        intro a121 h121
        refine sq_nil ?_
        apply na_store (k := 20) (deps := []) (R := IsBox _ _ _) h121 rfl rfl IsBox.stable (fun X hX hΦ => lv_store0 rfl (h121.ev rfl) (h121.ev rfl) rfl (by kernel_rfl) ((S76.grow hX).at_ (i := 2) rfl) rfl rfl)
        intro vs20
        refine na_end fun X122 hX122 hΦ122 => ?_
        have S122 := S76.growBox (i := 2) (v := vs20) rfl hX122 (told_all hΦ122 (k := 20) rfl)
        refine ma h121 rfl rfl fun a123 h123 => ?_
        refine st_nil (go_then (wp_ret ?_))
        refine finct h123 rfl rfl rfl S122 (i := 2) rfl (by kernel_rfl) (by kernel_rfl) ?_
        refine ⟨(p45.1, p53.2), ?_, ⟨fun u hu => ?_, fun u hu => hF53.2 u (hF44.2 u (hF19.2 u hu))⟩, (S122.sub (.cons _ (.cons _ (.cons _ (.cons _ (.cons_cons _ .slnil))))))⟩
        · have hv : (afO x y).isSome = (decide (p45.1.s > y.s) || (!p53.1.isNone && (((bs (pgY x ((bhR y).toNat / 448)).2).size : Int) == bhR y % 448))) := by
           rw [haf, hpz, bs_size]
           by_cases h1 : y.s < z.s
           · rw [if_pos h1]; simp [h1]
           · rw [if_neg h1]
             have h1' : decide (z.s > y.s) = false := by simpa using h1
             rw [h1', Bool.false_or]
             cases hn1 : p53.1.isNone with
             | true => rw [RdrOk.none_of (S122.at_ (i := 4) rfl).1 hF53.1 hn1]; rfl
             | false =>
              rw [RdrOk.some_of (S122.at_ (i := 4) rfl).1 hF53.1 hn1]
              simp only
              by_cases h2 : ((pgY x ((bhR y).toNat / 448)).2.length : Int) = bhR y % 448
              · rw [if_pos h2, h2]; simp
              · rw [if_neg h2]; simp [h2]
          rw [hv]; rfl
        · rw [haf] at hu
          have : u = z := by
           split at hu
           · injection hu with hu; exact hu.symm
           · split at hu
             · cases hu
             · split at hu
               · injection hu with hu; exact hu.symm
               · cases hu
          rw [this]; exact hpz
      case hB => kernel_rfl
      case hst => rfl
    case hB => kernel_rfl
end Go.Proofs.YtmlilplbdpjfcaaGreatDoor
