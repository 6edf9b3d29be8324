/-
  Chapter 20: the reader's bytes.
-/
import Derived.Test.YtmlilplbdpjfcaaGreatDoorRg13
namespace Go.Proofs.YtmlilplbdpjfcaaGreatDoor
set_option linter.unusedVariables false
set_option linter.unusedSimpArgs false
set_option maxRecDepth 4000
open Go.RowKit Go.Sort
def pgY (x : RdrP) (q : Nat) : Int × List UInt8 := (pgIn x.s x.pg x.top q).getD (0, [])
theorem pgIn_bd {s : List UInt8} {pg q : Nat} {top sq : Int} {cs : List UInt8} (h : pgIn s pg top q = some (sq, cs)) : cs.length ≤ 448 ∧ 1 ≤ sq ∧ sq ≤ top := by
  unfold pgIn at h
  split at h
  · cases h
  · split at h
    · rename_i h1
      injection h with h
      injection h with h2 h3
      rw [Bool.and_eq_true, Bool.and_eq_true, inB_true, inB_true] at h1
      rw [← h2, ← h3]
      have := List.length_take_le (nAt (opL (blkL s (2 + q % (pg - 2)))) 12 2).toNat ((opL (blkL s (2 + q % (pg - 2)))).drop 64)
      omega
    · cases h
theorem pgY_bd (x : RdrP) (q : Nat) : (pgY x q).2.length ≤ 448 := by
  unfold pgY
  cases h : pgIn x.s x.pg x.top q with
  | none => exact Nat.zero_le _
  | some y => exact (pgIn_bd h).1
theorem RdrOk.box_of {x : RdrP} {R m G n c q : Nat} {o : Option Nat} {ks : List (Nat × Option Nat)} {X : World} (h : RdrOk x R m G n c ks X) (hm : (q, o) ∈ ks) (ho : o.isNone = false) : Box X (o.getD 0) #[.int .i64 q, .int .i64 (pgY x q).1, .string (bs (pgY x q).2)] 149 := by
  have h1 := h.pgs _ hm
  cases o with
  | none => cases ho
  | some b =>
   obtain ⟨sq, cs, h2, h3⟩ := h1
   unfold pgY
   rw [h2]; exact h3
theorem RdrOk.some_of {x : RdrP} {R m G n c q : Nat} {o : Option Nat} {ks : List (Nat × Option Nat)} {X : World} (h : RdrOk x R m G n c ks X) (hm : (q, o) ∈ ks) (ho : o.isNone = false) : pgIn x.s x.pg x.top q = some (pgY x q) := by
  have h1 := h.pgs _ hm
  cases o with
  | none => cases ho
  | some b =>
   obtain ⟨sq, cs, h2, h3⟩ := h1
   unfold pgY
   rw [h2]; rfl
theorem RdrOk.none_of {x : RdrP} {R m G n c q : Nat} {o : Option Nat} {ks : List (Nat × Option Nat)} {X : World} (h : RdrOk x R m G n c ks X) (hm : (q, o) ∈ ks) (ho : o.isNone = true) : pgIn x.s x.pg x.top q = none := by
  have h1 := h.pgs _ hm
  cases o with
  | none => exact h1
  | some b => cases ho
theorem RdrNo.box_of {x : RdrP} {R m G n c q : Nat} {o : Option Nat} {ks : List (Nat × Option Nat)} {X : World} (h : RdrNo x R m G n c ks X) (hm : (q, o) ∈ ks) (ho : o.isNone = false) : Box X (o.getD 0) #[.int .i64 q, .int .i64 (pgY x q).1, .string (bs (pgY x q).2)] 149 := by
  obtain ⟨X0, h1, h2⟩ := h
  have h3 := h1.box_of hm ho
  refine (h2 _ (h1.ne_map h3) ?_).trans h3
  cases o with
  | none => cases ho
  | some b => exact .inr (.inr (.inr ⟨q, hm⟩))
theorem ptrV_some {o : Option Nat} (h : o.isNone = false) : ptrV o = .pointer (some ⟨o.getD 0, 0, none⟩) := by
  cases o with
  | none => cases h
  | some b => rfl
theorem run_pnil {P : Program} {X : World} {t e : TypeId} {q : TypeInfo} (o : Option Nat) (ht : P.underlying t = some (.pointer e)) (hq : P.info? e = some q) : (binOp .eql t (ptrV o) (.pointer none)).run P X = .ok (.bool o.isNone) X := by
  have h : ∀ d : Nat, (Op.equalIn (d + 1) t (ptrV o) (.pointer none)).run P X = .ok o.isNone X := fun d => by
    cases o <;> simp [ptrV, Op.equalIn, run_underlying ht, sizeOf, typeInfo, hq]
  simp only [binOp]
  simp [Op.equal, Op.maxDepth, h 9999]
theorem ex_pnil {P : Program} {ρ : Operand → Value} {X : World} {d : Option Tmp} {ty : TypeId} {ps : String} {af : Array Edge} {g : Option (Nat × Bool)} {x y : Operand} {t t' e : TypeId} {o : Option Nat} (ht : P.underlying t = some (.pointer e)) (hq : (P.info? e).isSome = true) (hgd : P.eqGuardType P.depth t = false) (hx : ρ x = ptrV o) (hy : ρ y = .pointer none) :
    (execOp ρ ⟨d, .binOp .eql t x y t', ty, ps, af, g⟩).run P X = .ok (.value (.bool o.isNone)) X := by
  obtain ⟨q, hq⟩ := Option.isSome_iff_exists.1 hq
  have h := run_pnil (P := P) (X := X) o ht hq
  simp [execOp, hx, hy, eqGuard, hgd, h]
theorem by_fuel {s : List UInt8} {pg : Nat} {top q : Int} : ∀ (f g c a : Nat), c ≤ f → c ≤ g → byIn s pg top q f c a = byIn s pg top q g c a
  | f, g, 0, a, _, _ => by cases f <;> cases g <;> rfl
  | 0, g, c + 1, a, h, _ => by omega
  | f + 1, 0, c + 1, a, _, h => by omega
  | f + 1, g + 1, c + 1, a, hf, hg => by
    unfold byIn
    cases pgIn s pg top (a / 448) with
    | none => rfl
    | some y =>
     obtain ⟨q', b⟩ := y
     simp only
     split
     · rfl
     · have : 1 ≤ min (c + 1) (448 - a % 448) := by omega
       rw [by_fuel f g _ _ (by omega) (by omega)]
theorem by_step {s : List UInt8} {pg : Nat} {top q : Int} {c a : Nat} (h : 0 < c) {m : Nat} (hm : min c (448 - a % 448) = m) : byIn s pg top q c c a = match pgIn s pg top (a / 448) with
    | none => none
    | some (q', b) => if q' ≠ q ∨ b.length < a % 448 + m then none else (byIn s pg top q (c - m) (c - m) (a + m)).map fun l => (b.drop (a % 448)).take m ++ l := by
  obtain ⟨c, rfl⟩ : ∃ d, c = d + 1 := ⟨c - 1, by omega⟩
  conv => lhs; unfold byIn
  rw [hm]
  cases pgIn s pg top (a / 448) with
  | none => rfl
  | some y =>
   obtain ⟨q', b⟩ := y
   simp only
   split
   · rfl
   · rw [by_fuel c (c + 1 - m) _ _ (by omega) (Nat.le_refl _)]
structure ByS where
  c : Nat
  a : Nat
  l : List UInt8
  v : Value
  u : Bool
  ks : List (Nat × Option Nat)
def byO (x : RdrP) (sq : Int) (cnt a : Nat) : Option (List UInt8) := byIn x.s x.pg x.top sq cnt cnt a
theorem rdbytes_any (x : RdrP) (hx : RdrB x) (R m G n c : Nat) (ks : List (Nat × Option Nat)) (a cnt : Nat) (sq : Int) (ha : a + cnt < 1000000000) (hcn : cnt ≤ 4000) (w : World) (hok : RdrOk x R m G n c ks w) (hM : ∀ b, rdrD R m G ks b → b < w.heap.size) :
    Calls Tryz.prog 110 #[.pointer (some ⟨R, 0, none⟩), .int .i64 a, .int .i64 cnt, .int .i64 sq] w fun r w' => ∃ p : List (Nat × Option Nat), r = .returned (.tuple #[.string (bs ((byO x sq cnt a).getD [])), .bool (byO x sq cnt a).isSome]) ∧ (∀ y ∈ ks, y ∈ p) ∧ St (rdrM R m G ks) w w' [rdrE x R m G n c ks w p] := by
  refine st_enter (N := 64) Tryz.func110 rfl rfl rfl (fun a0 h0 => ?_)
  have S0 := (St.initInv ⟨hok, RdrRel.refl⟩ (fun b hb => ⟨mem_rdrM.2 hb, hM b hb⟩) : St (rdrM R m G ks) w w [rdrE x R m G n c ks w ks])
  refine st_seq (st_reg ?_)
  refine ma h0 rfl rfl fun a1 h1 => ?_
  refine ma h1 rfl rfl fun a2 h2 => ?_
  refine st_nil (go_then (st_seq (st_reg ?_)))
  refine sl_new h2 (wn rfl) (f := fun b => .pointer (some ⟨b, 0, none⟩)) (ex_alloc (z := .agg #[.pointer none, .slice none 0 0]) (by kernel_rfl)) rfl rfl S0 fun b10 a3 X3 gb10 h3 S3 => ?_
  replace S3 := St.bld0 S3
  refine st_nil (go_then (st_seq (wp_block ?_)))
  refine st_loop h3 S3 [10, 0, 3] (fun (q : ByS) => [(1, .int .i64 (q.a : Int)), (2, .int .i64 (q.c : Int))]) (fun (q : ByS) => byO x sq cnt a = (byO x sq q.c q.a).map (q.l ++ ·) ∧ (∀ y ∈ ks, y ∈ q.ks) ∧ q.a + q.c = a + cnt ∧ q.l.length + q.c = cnt) (fun q L => (L.set 0 (bldE q.u b10 q.v q.l)).set 1 (rdrE x R m G n c ks w q.ks)) (fun (q : ByS) => q.c) (⟨cnt, a, [], .slice none 0 0, false, ks⟩) (⟨by cases byO x sq cnt a <;> rfl, fun y hy => hy, rfl, by show 0 + cnt = cnt; omega⟩) ⟨rfl, rfl, rfl, rfl, rfl, trivial⟩ (S3) ?_
  intro q a4 X4 hF0 h4 S4
  refine st_seq (st_seq (st_reg ?_))
  refine mv h4 rfl rfl fun a5 h5 => ?_
  refine sl_val h5 (wn rfl) (ex_gtr (h5.ev rfl) (h5.ev rfl)) rfl rfl fun a6 h6 => ?_
  refine st_nil (go_then ?_)
  refine st_if (h6.ev rfl) (fun hc0 => ?_) (fun hc0 => ?_)
  · skip
    have hpos : 0 < q.c := by have := of_decide_eq_true hc0; omega
    obtain ⟨hF1, hF2, hF3, hF4⟩ := hF0
    obtain ⟨mn, hmn⟩ : ∃ m, min q.c (448 - q.a % 448) = m := ⟨_, rfl⟩
    have hst : byO x sq q.c q.a = _ := by_step hpos hmn
    refine wp_skip (go_then (wp_block (st_seq (st_reg ?_))))
    refine mv h6 rfl rfl fun a7 h7 => ?_
    refine mv h7 rfl rfl fun a8 h8 => ?_
    refine sl_val h8 (wn rfl) (as_val (v' := .int .i64 ((q.a / 448 : Nat) : Int)) (congrArg _ (by omega)) (ex_quo (h8.ev rfl) (h8.ev rfl) (by omega))) rfl rfl fun a9 h9 => ?_
    refine sl_updx h9 (wn rfl) (ex_call (fun _ _ => by kernel_rfl) (h9.evs rfl) rfl) rfl rfl S4 (i := 1) rfl (fun b hb => mem_rdrM.1 hb) (rdpage_any x hx R m G n c q.ks (q.a / 448) (by omega) _ (S4.at_ (i := 1) rfl).1 (fun b hb => (S4.new _ (List.mem_of_getElem? (i := 1) rfl) b hb).2)) fun p19 a10 X10 h10 hF19 S10 => ?_
    replace S10 := St.rdrTrans (i := 1) (j := 1) S4 rfl S10 rfl
    refine ma h10 rfl rfl fun a11 h11 => ?_
    refine st_nil (go_then (st_seq (st_reg ?_)))
    refine mv h11 rfl rfl fun a12 h12 => ?_
    refine sl_val h12 (wn rfl) (as_val (v' := .int .i64 ((q.a % 448 : Nat) : Int)) (congrArg _ (by omega)) (ex_rem (h12.ev rfl) (h12.ev rfl) (by omega))) rfl rfl fun a13 h13 => ?_
    refine ma h13 rfl rfl fun a14 h14 => ?_
    refine st_nil (go_then (st_seq (st_reg ?_)))
    refine mv h14 rfl rfl fun a15 h15 => ?_
    refine mv h15 rfl rfl fun a16 h16 => ?_
    refine sl_val h16 (wn rfl) (ex_sub (h16.ev rfl) (h16.ev rfl) (by omega)) rfl rfl fun a17 h17 => ?_
    refine sl_val h17 (wn rfl) (as_val (v' := .int .i64 (mn : Int)) (congrArg _ (by omega)) (ex_min (by kernel_rfl) (h17.ev rfl) (h17.ev rfl))) rfl rfl fun a18 h18 => ?_
    refine ma h18 rfl rfl fun a19 h19 => ?_
    refine st_nil (go_then (st_seq (st_seq (st_reg ?_))))
    refine mv h19 rfl rfl fun a20 h20 => ?_
    refine sl_val h20 (wn rfl) (ex_pnil Tryz.underlying146 (by kernel_rfl) (by kernel_rfl) (h20.ev rfl) (h20.ev rfl)) rfl rfl fun a21 h21 => ?_
    refine mv h21 rfl rfl fun a22 h22 => ?_
    apply sl_or h22 S10 28 rfl 7 35
    case hf =>
     intro gc28
     refine sl_val h22 (wanted_yes h22 _ rfl rfl rfl gc28) (ex_move (h22.ev rfl)) rfl rfl fun a23 h23 => ?_
     refine sl_val h23 (wanted_yes h23 _ rfl rfl rfl gc28) (ex_nilck ((h23.ev rfl).trans (ptrV_some gc28))) rfl rfl fun a24 h24 => ?_
     refine sl_val h24 (wanted_yes h24 _ rfl rfl rfl gc28) (ex_field (off := 1) (by kernel_rfl) (h24.ev rfl) rfl) rfl rfl fun a25 h25 => ?_
     refine sl_val h25 (wanted_yes h25 _ rfl rfl rfl gc28) (ex_load (by kernel_rfl) (h25.ev rfl) (box_cell (RdrOk.box_of (S10.at_ (i := 1) rfl).1 hF19.1 gc28) rfl)) rfl rfl fun a26 h26 => ?_
     refine sl_val h26 (wanted_yes h26 _ rfl rfl rfl gc28) (ex_move (h26.ev rfl)) rfl rfl fun a27 h27 => ?_
     refine sl_val h27 (wanted_yes h27 _ rfl rfl rfl gc28) (ex_neq (h27.ev rfl) (h27.ev rfl)) rfl rfl fun a28 h28 => ?_
     refine sl_val h28 (wn rfl) (ex_pick_f (h28.ev rfl) gc28 (h28.ev rfl)) rfl rfl fun a29 h29 => ?_
     exact st_nil ⟨h29.mid (m := [(_, _), (_, _), (_, _), (_, _), (_, _), (_, _)]) rfl, S10⟩
    case ht =>
     intro gc28
     refine sl_no h22 (wanted_no h22 _ rfl rfl rfl gc28) rfl rfl fun a30 h30 => ?_
     refine sl_no h30 (wanted_no h30 _ rfl rfl rfl gc28) rfl rfl fun a31 h31 => ?_
     refine sl_no h31 (wanted_no h31 _ rfl rfl rfl gc28) rfl rfl fun a32 h32 => ?_
     refine sl_no h32 (wanted_no h32 _ rfl rfl rfl gc28) rfl rfl fun a33 h33 => ?_
     refine sl_no h33 (wanted_no h33 _ rfl rfl rfl gc28) rfl rfl fun a34 h34 => ?_
     refine sl_no h34 (wanted_no h34 _ rfl rfl rfl gc28) rfl rfl fun a35 h35 => ?_
     refine sl_val h35 (wn rfl) (ex_pick_t (h35.ev rfl) gc28 (h35.ev rfl)) rfl rfl fun a36 h36 => ?_
     exact st_nil ⟨h36.mid (m := [(_, _), (_, _), (_, _), (_, _), (_, _), (_, _)]) rfl, S10⟩
    case h =>
     rintro a37 X37 ⟨h37, S37⟩
     refine mv h37 rfl rfl fun a38 h38 => ?_
     apply sl_or h38 S37 36 rfl 10 46
     case hf =>
      intro gc36
      refine sl_val h38 (wanted_yes h38 _ rfl rfl rfl gc36) (ex_move (h38.ev rfl)) rfl rfl fun a39 h39 => ?_
      refine sl_val h39 (wanted_yes h39 _ rfl rfl rfl gc36) (ex_nilck ((h39.ev rfl).trans (ptrV_some (Bool.or_eq_false_iff.1 gc36).1))) rfl rfl fun a40 h40 => ?_
      refine sl_val h40 (wanted_yes h40 _ rfl rfl rfl gc36) (ex_field (off := 2) (by kernel_rfl) (h40.ev rfl) rfl) rfl rfl fun a41 h41 => ?_
      refine sl_val h41 (wanted_yes h41 _ rfl rfl rfl gc36) (ex_load (by kernel_rfl) (h41.ev rfl) (box_cell (RdrOk.box_of (S37.at_ (i := 1) rfl).1 hF19.1 (Bool.or_eq_false_iff.1 gc36).1) rfl)) rfl rfl fun a42 h42 => ?_
      refine sl_val h42 (wanted_yes h42 _ rfl rfl rfl gc36) (ex_slen Tryz.underlying9 (h42.ev rfl)) rfl rfl fun a43 h43 => ?_
      refine sl_val h43 (wanted_yes h43 _ rfl rfl rfl gc36) (ex_move (h43.ev rfl)) rfl rfl fun a44 h44 => ?_
      refine sl_val h44 (wanted_yes h44 _ rfl rfl rfl gc36) (ex_move (h44.ev rfl)) rfl rfl fun a45 h45 => ?_
      refine sl_val h45 (wanted_yes h45 _ rfl rfl rfl gc36) (ex_add (h45.ev rfl) (h45.ev rfl) (by omega)) rfl rfl fun a46 h46 => ?_
      refine sl_val h46 (wanted_yes h46 _ rfl rfl rfl gc36) (ex_lss (h46.ev rfl) (h46.ev rfl)) rfl rfl fun a47 h47 => ?_
      refine sl_val h47 (wn rfl) (ex_pick_f (h47.ev rfl) gc36 (h47.ev rfl)) rfl rfl fun a48 h48 => ?_
      exact st_nil ⟨h48.mid (m := [(_, _), (_, _), (_, _), (_, _), (_, _), (_, _), (_, _), (_, _), (_, _)]) rfl, S37⟩
     case ht =>
      intro gc36
      refine sl_no h38 (wanted_no h38 _ rfl rfl rfl gc36) rfl rfl fun a49 h49 => ?_
      refine sl_no h49 (wanted_no h49 _ rfl rfl rfl gc36) rfl rfl fun a50 h50 => ?_
      refine sl_no h50 (wanted_no h50 _ rfl rfl rfl gc36) rfl rfl fun a51 h51 => ?_
      refine sl_no h51 (wanted_no h51 _ rfl rfl rfl gc36) rfl rfl fun a52 h52 => ?_
      refine sl_no h52 (wanted_no h52 _ rfl rfl rfl gc36) rfl rfl fun a53 h53 => ?_
      refine sl_no h53 (wanted_no h53 _ rfl rfl rfl gc36) rfl rfl fun a54 h54 => ?_
      refine sl_no h54 (wanted_no h54 _ rfl rfl rfl gc36) rfl rfl fun a55 h55 => ?_
      refine sl_no h55 (wanted_no h55 _ rfl rfl rfl gc36) rfl rfl fun a56 h56 => ?_
      refine sl_no h56 (wanted_no h56 _ rfl rfl rfl gc36) rfl rfl fun a57 h57 => ?_
      refine sl_val h57 (wn rfl) (ex_pick_t (h57.ev rfl) gc36 (h57.ev rfl)) rfl rfl fun a58 h58 => ?_
      exact st_nil ⟨h58.mid (m := [(_, _), (_, _), (_, _), (_, _), (_, _), (_, _), (_, _), (_, _), (_, _)]) rfl, S37⟩
     case h =>
      rintro a59 X59 ⟨h59, S59⟩
      refine st_nil (go_then ?_)
      refine st_if (h59.ev rfl) (fun hc1 => ?_) (fun hc1 => ?_)
      · skip
        have hno : byO x sq q.c q.a = none := by
          rw [hst]
          cases hn : p19.1.isNone with
          | true => rw [RdrOk.none_of (S59.at_ (i := 1) rfl).1 hF19.1 hn]
          | false =>
           rw [RdrOk.some_of (S59.at_ (i := 1) rfl).1 hF19.1 hn]
           rw [hn] at hc1
           simp only
           rw [if_pos]
           have hlen := bs_size (pgY x (q.a / 448)).2
           simp only [Bool.false_or, Bool.or_eq_true, decide_eq_true_eq, bne_iff_ne] at hc1
           rw [hlen] at hc1
           rcases hc1 with h | h
           · exact .inl h
           · exact .inr (by omega)
        rw [hno] at hF1
        refine st_seq (st_reg ?_)
        refine ma h59 rfl rfl fun a60 h60 => ?_
        refine ma h60 rfl rfl fun a61 h61 => ?_
        refine st_nil (go_then (wp_ret (ret_then (ret_block (ret_then (ret_block (ret_then ?_)))))))
        refine fin2 h61 rfl rfl rfl ?_
        exact ⟨p19.2, (by rw [hF1]; rfl), (fun y hy => hF19.2 y (hF2 y hy)), (S59.sub (.cons _ (.cons_cons _ .slnil)))⟩
      · skip
        have hn : p19.1.isNone = false := by
          rw [Bool.or_eq_false_iff, Bool.or_eq_false_iff] at hc1; exact hc1.1.1
        rw [RdrOk.some_of (S59.at_ (i := 1) rfl).1 hF19.1 hn] at hst
        have hlen := bs_size (pgY x (q.a / 448)).2
        have hpb := pgY_bd x (q.a / 448)
        have hlt : q.a % 448 + mn ≤ (pgY x (q.a / 448)).2.length := by
          simp only [Bool.or_eq_false_iff, decide_eq_false_iff_not] at hc1
          have := hc1.2
          omega
        have hsq : (pgY x (q.a / 448)).1 = sq := by
          simp only [Bool.or_eq_false_iff, bne_eq_false_iff_eq] at hc1
          exact hc1.1.2
        simp only at hst
        rw [if_neg (by rintro (h | h); exact h hsq; omega)] at hst
        have hpl : (((pgY x (q.a / 448)).2.drop (q.a % 448)).take mn).length = mn := by rw [List.length_take, List.length_drop]; omega
        refine wp_skip (go_then (st_seq (st_reg ?_)))
        refine mv h59 rfl rfl fun a62 h62 => ?_
        refine sl_val h62 (wn rfl) (ex_nilck ((h62.ev rfl).trans (ptrV_some hn))) rfl rfl fun a63 h63 => ?_
        refine sl_val h63 (wn rfl) (ex_field (off := 2) (by kernel_rfl) (h63.ev rfl) rfl) rfl rfl fun a64 h64 => ?_
        refine sl_val h64 (wn rfl) (ex_load (by kernel_rfl) (h64.ev rfl) (box_cell (RdrOk.box_of (S59.at_ (i := 1) rfl).1 hF19.1 hn) rfl)) rfl rfl fun a65 h65 => ?_
        refine mv h65 rfl rfl fun a66 h66 => ?_
        refine mv h66 rfl rfl fun a67 h67 => ?_
        refine mv h67 rfl rfl fun a68 h68 => ?_
        refine sl_val h68 (wn rfl) (as_val (v' := .int .i64 ((q.a % 448 + mn : Nat) : Int)) (congrArg _ (by omega)) (ex_add (h68.ev rfl) (h68.ev rfl) (by omega))) rfl rfl fun a69 h69 => ?_
        refine sl_val h69 (wn rfl) (as_val (v' := .string (bs (((pgY x (q.a / 448)).2.drop (q.a % 448)).take mn))) (congrArg _ (by rw [bs_extract, Nat.add_sub_cancel_left])) (ex_sslice (l := (q.a % 448)) (h := (q.a % 448 + mn)) Tryz.underlying9 (h69.ev rfl) (h69.ev rfl) (h69.ev rfl) (by omega) (by omega))) rfl rfl fun a70 h70 => ?_
        refine sl_updx h70 (wn rfl) (ex_call (fun _ _ => by kernel_rfl) (h70.evs rfl) rfl) rfl rfl S59 (i := 0) rfl (fun b hb => mem_bldM.1 hb) (WriteString_st q.l _ _ (S59.at_ (i := 0) rfl) (fun k hk => (S59.new _ (List.mem_of_getElem? (i := 0) rfl) k hk).2) (by omega) (by intro h; rw [h] at hpl; simp at hpl; omega)) fun p56 a71 X71 h71 hF56 S71 => ?_
        refine st_nil (go_then (st_reg ?_))
        refine mv h71 rfl rfl fun a72 h72 => ?_
        refine mv h72 rfl rfl fun a73 h73 => ?_
        refine sl_val h73 (wn rfl) (as_val (v' := .int .i64 ((q.a + mn : Nat) : Int)) (congrArg _ (by omega)) (ex_add (h73.ev rfl) (h73.ev rfl) (by omega))) rfl rfl fun a74 h74 => ?_
        refine mv h74 rfl rfl fun a75 h75 => ?_
        refine mv h75 rfl rfl fun a76 h76 => ?_
        refine sl_val h76 (wn rfl) (as_val (v' := .int .i64 ((q.c - mn : Nat) : Int)) (congrArg _ (by omega)) (ex_sub (h76.ev rfl) (h76.ev rfl) (by omega))) rfl rfl fun a77 h77 => ?_
        refine ma h77 rfl rfl fun a78 h78 => ?_
        refine ma h78 rfl rfl fun a79 h79 => ?_
        refine st_nil (go_block (go_then ?_))
        exact ⟨⟨q.c - mn, q.a + mn, q.l ++ ((pgY x (q.a / 448)).2.drop (q.a % 448)).take mn, p56, true, p19.2⟩, (by show q.c - mn < q.c; omega), ⟨by rw [hF1, hst]; show Option.map _ (Option.map _ (byO x sq (q.c - mn) (q.a + mn))) = Option.map _ (byO x sq (q.c - mn) (q.a + mn)); rw [Option.map_map]; congr 1; funext l; simp, (fun y hy => hF19.2 y (hF2 y hy)), by show q.a + mn + (q.c - mn) = _; omega, by show (q.l ++ _).length + (q.c - mn) = _; rw [List.length_append, hpl]; omega⟩, h79.re ⟨rfl, rfl, rfl, rfl, rfl, trivial⟩, S71⟩
  · skip
    have hz0 : q.c = 0 := by have := of_decide_eq_false hc0; omega
    obtain ⟨hF1, hF2, hF3, hF4⟩ := hF0
    refine wp_exit ?_
    refine go_exit_then ?_
    refine go_exit_then ?_
    refine go_exit ?_
    refine go_then (st_seq (st_reg ?_))
    refine sl_updx h6 (wn rfl) (ex_call (fun _ _ => by kernel_rfl) (h6.evs rfl) rfl) rfl rfl S4 (i := 0) rfl (fun b hb => mem_bldM.1 hb) (String_st q.l _ (S4.at_ (i := 0) rfl) (fun k hk => (S4.new _ (List.mem_of_getElem? (i := 0) rfl) k hk).2) (by omega)) fun p63 a80 X80 h80 hF63 S80 => ?_
    refine ma h80 rfl rfl fun a81 h81 => ?_
    refine ma h81 rfl rfl fun a82 h82 => ?_
    refine st_nil (go_then (wp_ret ?_))
    refine fin2 h82 rfl rfl rfl ?_
    exact ⟨q.ks, (by rw [hF1, hz0]; show _ = Ending.returned (.tuple #[.string (bs (((some ([] : List UInt8)).map (q.l ++ ·)).getD [])), .bool ((some ([] : List UInt8)).map (q.l ++ ·)).isSome]); simp), hF2, (S80.sub (.cons _ (.cons_cons _ .slnil)))⟩
end Go.Proofs.YtmlilplbdpjfcaaGreatDoor
