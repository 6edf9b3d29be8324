/-
  Chapter 20: the bytes of a log, its writes.
-/
import Derived.Test.YtmlilplbdpjfcaaGreatDoorRg10
import Derived.Test.YtmlilplbdpjfcaaGreatDoorSplC
namespace Go.Proofs.YtmlilplbdpjfcaaGreatDoor
set_option linter.unusedVariables false
set_option linter.unusedSimpArgs false
set_option maxRecDepth 4000
open Go.RowKit Go.Sort
def strV (s : ByteArray) : Value := .string s
def repL (s : ByteArray) (n k : Nat) : List Value := List.replicate k (strV s) ++ List.replicate (n - k) (strV ⟨#[]⟩)
theorem repL_take (s : ByteArray) (n k j : Nat) (h : j ≤ k) : (repL s n k).take j = List.replicate j (strV s) := by
 unfold repL
 rw [List.take_append_of_le_length (by simpa using h), List.take_replicate, Nat.min_eq_left h]
theorem repL_step (s : ByteArray) (n k : Nat) (h : k ≤ n) : (repL s n k).take (0 + k * 1) ++ (List.replicate k (strV s)).take (min k (n - k) * 1) ++ (repL s n k).drop (0 + k * 1 + min k (n - k) * 1) = repL s n (k + min k (n - k)) := by
 rw [Nat.zero_add, Nat.mul_one, Nat.mul_one, repL_take s n k k (Nat.le_refl _), List.take_replicate, Nat.min_eq_left (Nat.min_le_left _ _)]
 unfold repL
 rw [List.drop_append, List.length_replicate, List.drop_of_length_le (by simp), List.nil_append, Nat.add_sub_cancel_left, List.drop_replicate, List.replicate_append_replicate]
 congr 2; omega
theorem rep_first (s : ByteArray) (n : Nat) (hn : 1 ≤ n) : (List.replicate n [strV ⟨#[]⟩]).flatten.take 0 ++ [strV s].take (min 1 n * 1) ++ (List.replicate n [strV ⟨#[]⟩]).flatten.drop (0 + min 1 n * 1) = repL s n 1 := by
 have h1 : (List.replicate n [strV ⟨#[]⟩]).flatten = List.replicate n (strV ⟨#[]⟩) := by
  induction n with
  | zero => rfl
  | succ n ih =>
   rcases Nat.eq_zero_or_pos n with rfl | h
   · rfl
   · rw [List.replicate_succ, List.flatten_cons, ih h]; rfl
 rw [h1, Nat.min_eq_left hn]
 unfold repL
 simp
theorem mul1_any (n : Nat) (h : n < 18446744073709551616) (w : World) : Calls Tryz.prog 129 #[.int .u64 1, .int .u64 n] w fun e w' => e = .returned (.tuple #[.int .u64 0, .int .u64 n]) ∧ w = w' := by
 refine (Tryz.bits_Mul 1 n (by decide) h w).mono ?_
 rintro e w' ⟨rfl, rfl⟩
 refine ⟨?_, rfl⟩
 rw [Nat.one_mul, Nat.div_eq_of_lt h, Nat.mod_eq_of_lt h]; rfl
theorem repeat_any (s : ByteArray) (n : Nat) (b : Nat) (w : World) (hb : Rd w w.heap.size (some ⟨b, 0, none⟩) [strV s]) (hn : 1 ≤ n ∧ n ≤ 100) :
 Calls Tryz.prog 99 #[.slice (some ⟨b, 0, none⟩) 1 1, .int .i64 n] w fun e w' => ∃ A c, e = .returned (.slice A n c) ∧ w'.ownsRow w.heap.size 9 1 (.slice A n c) n (List.replicate n (strV s)) ∧ Below w.heap.size w w' := by
 refine st_enter (N := 48) Tryz.func99 rfl rfl rfl (fun a0 h0 => ?_)
 have S0 := St.init w
 refine st_seq (st_reg ?_)
 refine ma h0 rfl rfl fun a1 h1 => ?_
 refine st_nil (go_then (st_seq (st_seq (st_reg ?_))))
 refine mv h1 rfl rfl fun a2 h2 => ?_
 refine sv h2 (ex_lss (h2.ev rfl) (h2.ev rfl)) fun a3 h3 => ?_
 refine st_nil (go_then ?_)
 refine st_if_f (h3.ev rfl) ((by rw [decide_eq_false]; omega)) ?_
 refine wp_skip (go_then (st_seq (st_reg ?_)))
 refine mv h3 rfl rfl fun a4 h4 => ?_
 refine sv h4 (ex_len Tryz.underlying80 (h4.ev rfl)) fun a5 h5 => ?_
 refine sv h5 (ex_convin (by kernel_rfl) Tryz.underlying163 (h5.ev rfl) (wrap_u64 (by decide))) fun a6 h6 => ?_
 refine mv h6 rfl rfl fun a7 h7 => ?_
 refine sv h7 (ex_convin (by kernel_rfl) Tryz.underlying163 (h7.ev rfl) (wrap_u64 (by omega))) fun a8 h8 => ?_
 refine sl_pure h8 (wn rfl) (ex_call (fun _ _ => by kernel_rfl) (h8.evs rfl) rfl) rfl rfl (mul1_any n (by omega) _) fun a9 h9 => ?_
 refine mv h9 rfl rfl fun a10 h10 => ?_
 refine vx h10 rfl rfl rfl fun a11 h11 => ?_
 refine vx h11 rfl rfl rfl fun a12 h12 => ?_
 refine ma h12 rfl rfl fun a13 h13 => ?_
 refine ma h13 rfl rfl fun a14 h14 => ?_
 refine st_nil (go_then (st_seq (st_seq (st_reg ?_))))
 refine mv h14 rfl rfl fun a15 h15 => ?_
 refine sv h15 (ex_gtr (h15.ev rfl) (h15.ev rfl)) fun a16 h16 => ?_
 refine mv h16 rfl rfl fun a17 h17 => ?_
 refine sl_val h17 (wanted_yes h17 _ rfl rfl rfl (rfl)) (ex_move (h17.ev rfl)) rfl rfl fun a18 h18 => ?_
 refine sl_val h18 (wanted_yes h18 _ rfl rfl rfl (rfl)) (ex_gtr (h18.ev rfl) (h18.ev rfl)) rfl rfl fun a19 h19 => ?_
 refine sv h19 (ex_pick_f (h19.ev rfl) (rfl) (h19.ev rfl)) fun a20 h20 => ?_
 refine st_nil (go_then ?_)
 refine st_if_f (h20.ev rfl) ((by rw [decide_eq_false]; omega)) ?_
 refine wp_skip (go_then (st_seq (st_reg ?_)))
 refine mv h20 rfl rfl fun a21 h21 => ?_
 refine sv h21 (ex_convin (by kernel_rfl) Tryz.underlying3 (h21.ev rfl) (wrap_in (by omega))) fun a22 h22 => ?_
 refine sl_makeR (n := n) (z := .string ⟨#[]⟩) (zc := [.string ⟨#[]⟩]) (sz := 1) (bytes := 16) h22 (wn rfl) ⟨rfl, rfl⟩ rfl Tryz.underlying80 (by kernel_rfl) rfl rfl (h22.ev rfl) (h22.ev rfl) ⟨by omega, by omega, by omega⟩ S0 fun b30 a23 X23 gb30 h23 S23 => ?_
 refine ma h23 rfl rfl fun a24 h24 => ?_
 refine nsr ?_
 refine mv h24 rfl rfl fun a25 h25 => ?_
 refine mv h25 rfl rfl fun a26 h26 => ?_
 refine sl_copyR (sz := 1) h26 (wn rfl) ⟨rfl, rfl⟩ rfl Tryz.underlying80 (by kernel_rfl) (h26.ev rfl) (h26.ev rfl) (S23.rd0 hb) rfl (List.all_eq_true.1 rfl) (fun h => by cases h) S23 (i := 0) rfl (by omega) fun a27 X27 h27 S27 => ?_
 have e1 : min 1 n = 1 := by omega
 rw [e1] at h27
 replace S27 := S27.xsEq (i := 0) (xs' := repL s n 1) rfl (rep_first s n hn.1)
 refine ma h27 rfl rfl fun a28 h28 => ?_
 refine st_nil (go_then (st_seq (wp_block ?_)))
 refine st_loop h28 S27 [7, 4] (fun (k : Nat) => [(8, .int .i64 k)]) (fun (k : Nat) => 1 ≤ k ∧ k ≤ n) (fun k L => L.set 0 (.row (.slice (some ⟨b30, 0, none⟩) n n) n 9 1 (repL s n k))) (fun (k : Nat) => n - k) (1) (⟨Nat.le_refl _, hn.1⟩) ⟨rfl, rfl, rfl, trivial⟩ (S27) ?_
 intro k a29 X29 hF0 h29 S29
 refine st_seq (st_seq (st_reg ?_))
 refine mv h29 rfl rfl fun a30 h30 => ?_
 refine mv h30 rfl rfl fun a31 h31 => ?_
 refine sv h31 (ex_len Tryz.underlying80 (h31.ev rfl)) fun a32 h32 => ?_
 refine sv h32 (ex_lss (h32.ev rfl) (h32.ev rfl)) fun a33 h33 => ?_
 refine st_nil (go_then ?_)
 refine st_if (h33.ev rfl) (fun hc2 => ?_) (fun hc2 => ?_)
 ·
  have hk : k < n := by have := of_decide_eq_true hc2; omega
  refine wp_skip (go_then (wp_block ?_))
  apply dr_flowA (m := 7) h33 (St.domAt S29 (i := 0) rfl) 0 [false, false, false, false, false, false, false, true] _ (by kernel_rfl)
  case h =>
   refine qv h33 (fun X hX => ex_move (h33.ev rfl)) fun a34 h34 => ?_
   refine qv h34 (fun X hX => ex_move (h34.ev rfl)) fun a35 h35 => ?_
   refine qv h35 (fun X hX => ex_move (h35.ev rfl)) fun a36 h36 => ?_
   refine qv h36 (fun X hX => ex_slice (c := n) (l := k) (h := n) (sz := 1) Tryz.underlying80 (by kernel_rfl) (h36.ev rfl) (h36.ev rfl) rfl (by omega) (by omega) (.inl (by omega)) rfl) fun a37 h37 => ?_
   refine qv h37 (fun X hX => ex_move (h37.ev rfl)) fun a38 h38 => ?_
   refine qv h38 (fun X hX => ex_move (h38.ev rfl)) fun a39 h39 => ?_
   refine qv h39 (fun X hX => ex_slice (c := n) (l := 0) (h := k) (sz := 1) Tryz.underlying80 (by kernel_rfl) (h39.ev rfl) rfl (h39.ev rfl) (Nat.zero_le _) (by omega) (.inr rfl) rfl) fun a40 h40 => ?_
   refine sq_nil ?_
   apply na_app (k := 7) (deps := []) (R := CopB _ _ _ _ _ _) h40 rfl rfl rfl CopB.stable (fun X hX hΦ => lv_copyR (sz := 1) rfl Tryz.underlying80 (by kernel_rfl) (h40.ev rfl) (h40.ev rfl) (by have q := rd_take (n := k) ((S29.grow hX).rdOf (i := 0) rfl); rw [repL_take s n k k (Nat.le_refl _)] at q; exact q) (by simp) (fun u hu => by rw [List.eq_of_mem_replicate hu]; rfl) (fun h => by cases h) ((S29.grow hX).at_ (i := 0) rfl) (by omega))
   intro v45 a41 h41
   refine na_end fun X42 hX42 hΦ42 => ?_
   obtain ⟨q42, S42⟩ := S29.copRow (i := 0) rfl hX42 (told_all hΦ42 (k := 7) rfl)
   subst q42
   refine sv h41 (as_val (v' := .int .i64 ((k + min k (n - k) : Nat) : Int)) (congrArg _ (by omega)) (ex_add (h41.ev rfl) (h41.ev rfl) (by omega))) fun a43 h43 => ?_
   refine ma h43 rfl rfl fun a44 h44 => ?_
   replace S42 := S42.xsEq (i := 0) rfl (repL_step s n k (by omega))
   refine st_nil (go_block (go_then ?_))
   exact ⟨k + min k (n - k), by omega, by omega, h44.re ⟨rfl, rfl, rfl, trivial⟩, S42⟩
  case hB => kernel_rfl
  case hst => rfl
 ·
  have hk : k = n := by have := of_decide_eq_false hc2; omega
  refine wp_exit ?_
  refine go_exit_then ?_
  refine go_exit_then ?_
  refine go_exit ?_
  refine go_then (st_seq (st_reg ?_))
  refine mv h33 rfl rfl fun a45 h45 => ?_
  refine ma h45 rfl rfl fun a46 h46 => ?_
  refine st_nil (go_then (wp_ret ?_))
  refine fin1 h46 rfl rfl ?_
  subst hk
  have q := S29.ownB (i := 0) rfl
  have e2 : repL s k k = List.replicate k (strV s) := by unfold repL; simp
  rw [e2] at q
  exact ⟨_, _, rfl, q, S29.below⟩
def rowS (ls : List (List UInt8)) : List Value := ls.map fun l => strV (bs l)
theorem rowS_set (ls : List (List UInt8)) (i : Nat) (s : List UInt8) (h : i < ls.length) : (rowS ls).take (0 + i * 1) ++ [strV (bs s)] ++ (rowS ls).drop (0 + i * 1 + 1) = rowS (ls.set i s) := by
 unfold rowS
 rw [Nat.zero_add, Nat.mul_one, List.map_set, List.set_eq_take_append_cons_drop, if_pos (by simpa using h)]
 simp
def rb0 (r : RngP) : List (List UInt8) := (List.replicate r.pg.toNat (zerosL 512)).set (r.r.s % 2).toNat (rsL r.r r.pg)
def rb1 (r : RngP) : List (List UInt8) := if r.e = rst0 then rb0 r else (rb0 r).set (r.e.s % 2).toNat (rsL r.e r.pg)
def rbK (r : RngP) : Nat → List (List UInt8)
 | 0 => rb1 r
 | k + 1 => (rbK r k).set (2 + ((roomsP r).1 + k) % (r.pg - 2)).toNat (pgR r ((roomsP r).1 + k))
def rbL (r : RngP) : List (List UInt8) := rbK r (roomsP r).2.toNat
theorem rb0_length (r : RngP) : (rb0 r).length = r.pg.toNat := by unfold rb0; simp
theorem rb1_length (r : RngP) : (rb1 r).length = r.pg.toNat := by unfold rb1; split <;> simp [rb0_length]
theorem rbK_length (r : RngP) : ∀ k, (rbK r k).length = r.pg.toNat
 | 0 => rb1_length r
 | k + 1 => by unfold rbK; rw [List.length_set]; exact rbK_length r k
theorem pgR_length (r : RngP) (q : Int) (hk : OkP r) : (pgR r q).length = 512 := by
 obtain ⟨e0, hI, _⟩ := pgK_inv q hk.all hk.h.rr.2.2.2 r.rs.length (Nat.le_refl _)
 rw [pgK_all] at hI
 unfold pgR
 rw [prL_length (by rw [pgH_length, hI.len])]
theorem rsL_length (x : RstP) (pg : Int) : (rsL x pg).length = 512 := by unfold rsL; rw [prL_length (rsH_length x pg)]
theorem set_all {ls : List (List UInt8)} {i : Nat} {s : List UInt8} (h : ∀ l ∈ ls, l.length = 512) (hs : s.length = 512) : ∀ l ∈ ls.set i s, l.length = 512 := fun l hl => by
 rcases List.mem_or_eq_of_mem_set hl with h1 | h1
 · exact h l h1
 · rw [h1]; exact hs
theorem rbK_all (r : RngP) (hk : OkP r) : ∀ k, ∀ l ∈ rbK r k, l.length = 512
 | 0 => by
  have h0 : ∀ l ∈ rb0 r, l.length = 512 := set_all (fun l hl => by rw [List.eq_of_mem_replicate hl, zerosL_length]) (rsL_length _ _)
  show ∀ l ∈ rb1 r, l.length = 512
  unfold rb1
  split
  · exact h0
  · exact set_all h0 (rsL_length _ _)
 | k + 1 => set_all (rbK_all r hk k) (pgR_length r _ hk)
theorem flat512 : ∀ (ls : List (List UInt8)), (∀ l ∈ ls, l.length = 512) → ls.flatten.length = 512 * ls.length
 | [], _ => rfl
 | l :: ls, h => by
  rw [List.flatten_cons, List.length_append, flat512 ls fun x hx => h x (by simp [hx]), h l (by simp), List.length_cons]; omega
theorem join_empty (ls : List (List UInt8)) : Lib.join ls [] = ls.flatten := by
 unfold Lib.join
 induction ls with
 | nil => rfl
 | cons x ls ih =>
  cases ls with
  | nil => simp [List.intercalate]
  | cons y ls =>
   have : List.intercalate [] (x :: y :: ls) = x ++ [] ++ List.intercalate [] (y :: ls) := by simp [List.intercalate, List.intersperse]
   rw [this, ih]; simp
theorem joinS_any (ls : List (List UInt8)) (b c : Nat) (w : World) (hr : Rd w w.heap.size (some ⟨b, 0, none⟩) (rowS ls)) (hne : 0 < ls.length) (hc : ls.length ≤ c) (hlen : ls.length ≤ 100) (hall : ∀ l ∈ ls, l.length = 512) :
 Calls Tryz.prog 100 #[.slice (some ⟨b, 0, none⟩) ls.length c, .string ⟨#[]⟩] w fun e w' => e = .returned (.string (bs ls.flatten)) ∧ Below w.heap.size w w' := by
 have hd : (ls.map bs).map (fun s : ByteArray => s.data.toList) = ls := by
  rw [List.map_map]
  have : ((fun s : ByteArray => s.data.toList) ∘ bs) = id := by funext l; exact bl_bs l
  rw [this, List.map_id]
 obtain ⟨b2, o2, e2, hB, _⟩ := hr.opened (by unfold rowS; simpa using hne)
 injection e2 with e2
 injection e2 with e2 _
 have := Tryz.strings_Join b 0 c (ls.map bs) ⟨#[]⟩ w (fun j x hj => by
  have h1 : (rowS ls)[j]? = some (.string x) := by
   unfold rowS
   rw [List.getElem?_map] at hj ⊢
   cases hg : ls[j]? with
   | none => rw [hg] at hj; cases hj
   | some l => rw [hg] at hj; simp only [Option.map_some, Option.some.injEq] at hj ⊢; rw [← hj]; rfl
  obtain ⟨b', o', e, _, hc'⟩ := hr j (.string x) h1
  injection e with e
  injection e with e1 e3
  subst e1 e3
  exact hc') (by rw [e2]; exact hB) (by simp; omega) (by simpa using hc) (by rw [hd, join_empty, flat512 ls hall]; omega)
 rw [hd, join_empty, List.length_map] at this
 exact this
theorem RingBytes_any (r : RngP) (A : Option Addr) (c : Nat) (w : World) (hr : Rd w w.heap.size A (recsV r.rs)) (hlen : r.rs.length ≤ 1000) (hx : ∀ x ∈ r.rs, I6 x.l) :
 Calls Tryz.prog 46 #[ringV r A c] w fun e w' => e = .returned (.tuple #[.string (if (chkR r).2 = 0 then bs (rbL r).flatten else ⟨#[]⟩), .int .i64 (chkR r).2]) ∧ Below w.heap.size w w' := by
 refine st_enter (N := 67) Tryz.func46 rfl rfl rfl (fun a0 h0 => ?_)
 have S0 := St.init w
 refine st_seq (st_reg ?_)
 refine nb h0 rfl rfl S0 fun b1 a1 X1 gb1 h1 S1 => ?_
 refine ma h1 rfl rfl fun a2 h2 => ?_
 refine ma h2 rfl rfl fun a3 h3 => ?_
 refine st_nil (go_then (st_seq (st_seq (st_reg ?_))))
 refine sv h3 (ex_loads (by kernel_rfl) (by kernel_rfl) (h3.ev rfl) (S1.cellsAll (i := 0) rfl)) fun a4 h4 => ?_
 refine sl_bel h4 (wn rfl) (ex_call (fun _ _ => by kernel_rfl) (h4.evs rfl) rfl) rfl rfl S1 (ringErr_any r A c _ (S1.rd0 hr) hlen hx) fun a5 X5 h5 S5 => ?_
 refine ma h5 rfl rfl fun a6 h6 => ?_
 refine nsr ?_
 refine mv h6 rfl rfl fun a7 h7 => ?_
 refine sv h7 (ex_neq (h7.ev rfl) (h7.ev rfl)) fun a8 h8 => ?_
 refine st_nil (go_then ?_)
 refine st_if (h8.ev rfl) (fun hc0 => ?_) (fun hc0 => ?_)
 ·
  have hne : ¬ (chkR r).2 = 0 := by simpa using hc0
  refine st_seq (st_reg ?_)
  refine mv h8 rfl rfl fun a9 h9 => ?_
  refine ma h9 rfl rfl fun a10 h10 => ?_
  refine ma h10 rfl rfl fun a11 h11 => ?_
  refine st_nil (go_then (wp_ret (ret_then ?_)))
  refine fin2 h11 rfl rfl rfl ?_
  exact ⟨by rw [if_neg hne], S5.below⟩
 ·
  have hz : (chkR r).2 = 0 := by simpa using hc0
  have hk := ok_iff.1 hz
  have hpg := hk.h.pg
  have hb := rooms_bd hk
  obtain ⟨u1, u2, u3⟩ := rstB_U4 hk.h.rb
  have ht := hk.tl.2.2
  have hpn : ((r.pg.toNat : Nat) : Int) = r.pg := by omega
  refine wp_skip (go_then (st_seq ?_))
  apply dr_flow h8 [true, true, true, false, false] _ (by kernel_rfl)
  case h =>
   refine qv h8 (fun X hX => ex_field (off := 0) (j := 0) (by kernel_rfl) (h8.ev rfl) rfl) fun a12 h12 => ?_
   refine qv h12 (fun X hX => as_val (v' := .int .i64 (r.pg.toNat : Int)) (congrArg _ hpn.symm) (ex_load (by kernel_rfl) (h12.ev rfl) ((S5.grow hX).cell (i := 0) rfl rfl))) fun a13 h13 => ?_
   refine sq_nil ?_
   apply nd_step (k := 0) (deps := []) (R := NewY X5.heap.size 512 (zerosL 512)) h13 rfl rfl rfl NewY.stable (fun X hX hΦ => lv_make rfl Tryz.underlying130 (by kernel_rfl) (h13.ev rfl) (h13.ev rfl) (by omega) hX.size)
   intro v14 a14 h14
   apply nd_step (k := 1) (deps := [0]) (R := IsVal (.string (bs (zerosL 512)))) h14 rfl rfl rfl IsVal.stable (fun X hX hΦ => (by obtain ⟨b, rfl, _, hbb⟩ := (told_get (k := 0) hΦ rfl rfl); exact lv_val (as_val (by rw [List.drop_zero, List.take_of_length_le (by rw [zerosL_length]; omega)]) (ex_bstr (n := 512) Tryz.underlying130 Tryz.underlying5 Tryz.underlying9 (h14.ev rfl) (byt_str (o' := 0) (n := 512) hbb (by rw [zerosL_length]; omega)).1 (byt_str (o' := 0) (n := 512) hbb (by rw [zerosL_length]; omega)).2))))
   intro v15 a15 h15
   apply nd_step (k := 2) (deps := [1]) (R := NewB X5.heap.size (fun b => .slice (some ⟨b, 0, none⟩) 1 1) #[strV (bs (zerosL 512))] 9) h15 rfl rfl rfl NewB.stable (fun X hX hΦ => (by obtain rfl : v15 = _ := (told_get (k := 1) hΦ rfl rfl); exact lv_new (ex_bslice Tryz.underlying80 (by kernel_rfl) (by kernel_rfl) (h15.evs2 rfl) rfl rfl rfl (by decide) (by decide)) hX.size))
   intro v16 a16 h16
   refine nd_end fun X17 hX17 hΦ17 => ?_
   have S17 := S5.grow hX17
   have qv14 := told_all hΦ17 (k := 0) rfl
   have qv15 := told_all hΦ17 (k := 1) rfl
   have qv16 := told_all hΦ17 (k := 2) rfl
   obtain ⟨b16, rfl, gb16, qv16⟩ := qv16
   have S18 := S5.add hX17 (e := .box _ _ _) qv16 (fun b hb => by cases hb; exact ⟨gb16, Box.lt qv16⟩)
   refine sl_own h16 (wn rfl) (ex_call (fun _ _ => by kernel_rfl) (h16.evs rfl) rfl) rfl rfl S18 (repeat_any (bs (zerosL 512)) r.pg.toNat b16 _ (S18.boxRd (i := 0) rfl) (by omega)) (Nat.le_refl _) fun A19 c19 a19 X19 h19 S19 => ?_
   refine ma h19 rfl rfl fun a20 h20 => ?_
   obtain ⟨g19, hg19⟩ := row_some (S19.at_ (i := 0) rfl) (by omega)
   subst hg19
   replace S19 := S19.xsEq (i := 0) (xs' := rowS (List.replicate r.pg.toNat (zerosL 512))) rfl (by unfold rowS; rw [List.map_replicate])
   refine st_nil (go_then (st_seq ?_))
   apply dr_flow h20 [false, false, false, false, false, false, false, false, false] _ (by kernel_rfl)
   case h =>
    refine qv h20 (fun X hX => ex_move (h20.ev rfl)) fun a21 h21 => ?_
    refine qv h21 (fun X hX => ex_field (off := 1) (j := 1) (by kernel_rfl) (h21.ev rfl) rfl) fun a22 h22 => ?_
    refine qv (v := rstV r.r) h22 (fun X hX => ex_loads (by kernel_rfl) (by kernel_rfl) (h22.ev rfl) ((S19.grow hX).cellsOf (i := 2) rfl 1 3)) fun a23 h23 => ?_
    refine sq_bel h23 (wn rfl) rfl rfl (fun X => (ex_call (fun _ _ => by kernel_rfl) (h23.evs rfl) rfl)) (fun X hX => restartIn_any r.r u1.1 _) fun a24 h24 => ?_
    refine qv h24 (fun X hX => ex_field (off := 1) (j := 1) (by kernel_rfl) (h24.ev rfl) rfl) fun a25 h25 => ?_
    refine qv (v := rstV r.r) h25 (fun X hX => ex_loads (by kernel_rfl) (by kernel_rfl) (h25.ev rfl) ((S19.grow hX).cellsOf (i := 2) rfl 1 3)) fun a26 h26 => ?_
    refine qv h26 (fun X hX => ex_field (off := 0) (j := 0) (by kernel_rfl) (h26.ev rfl) rfl) fun a27 h27 => ?_
    refine qv h27 (fun X hX => ex_load (by kernel_rfl) (h27.ev rfl) ((S19.grow hX).cell (i := 2) rfl rfl)) fun a28 h28 => ?_
    refine sq_bel h28 (wn rfl) rfl rfl (fun X => (ex_call (fun _ _ => by kernel_rfl) (h28.evs rfl) rfl)) (fun X hX => restartPage_any r.r r.pg u1 u2 u3 (by omega) _) fun a29 h29 => ?_
    refine sq_nil ?_
    refine nd_end fun X30 hX30 hΦ30 => ?_
    have S30 := S19.grow hX30
    refine sv h29 (ex_index (i := (r.r.s % 2).toNat) (sz := 1) Tryz.underlying80 (by kernel_rfl) (h29.ev rfl) (h29.ev rfl) (by omega) (by omega) rfl) fun a31 h31 => ?_
    refine sl_rowset h31 (wn rfl) ⟨rfl, rfl⟩ (h31.ev rfl) (h31.ev rfl) rfl (by kernel_rfl) S30 (i := 0) rfl rfl (by show 0 + (r.r.s % 2).toNat * 1 + 1 ≤ r.pg.toNat * 1; omega) fun X32 S32 => ?_
    replace S32 := S32.xsEq (i := 0) (xs' := rowS (rb0 r)) rfl (rowS_set _ _ _ (by rw [List.length_replicate]; omega))
    refine st_nil (go_then (st_seq (st_seq (st_reg ?_))))
    refine vf h31 4 4 rfl rfl rfl fun a33 h33 => ?_
    refine sv (v := rstV r.e) h33 (ex_loads (by kernel_rfl) (by kernel_rfl) (h33.ev rfl) (S32.cellsOf (i := 2) rfl 4 3)) fun a34 h34 => ?_
    refine sv h34 (ex_build (zs := [.int .i64 0, .int .i64 0, .int .i64 0]) (pl := [(0, 1), (1, 1), (2, 1)]) (by kernel_rfl) (by kernel_rfl) (h34.evs2 rfl) rfl rfl) fun a35 h35 => ?_
    refine sv h35 (ex_tneq (ks := [.i .i64, .i .i64, .i .i64]) (by kernel_rfl) Tryz.underlying23 (by kernel_rfl) (h35.ev rfl) (h35.ev rfl) rfl rfl) fun a36 h36 => ?_
    refine st_nil (go_then ?_)
    refine st_if (h36.ev rfl) (fun hc1 => ?_) (fun hc1 => ?_)
    ·
     have he : r.e ≠ rst0 := by
      have e1 : (!eqL [.int .i64 r.e.s, .int .i64 r.e.c, .int .i64 r.e.o] [.int .i64 rst0.s, .int .i64 rst0.c, .int .i64 rst0.o]) = true := hc1
      rw [rst_eqL] at e1; simpa using e1
     have heb : rstB r.e = true := (hk.h.e.resolve_left he).1
     obtain ⟨w1, w2, w3⟩ := rstB_U4 heb
     have w0 := w1.1
     apply dr_flow h36 [false, false, false, false, false, false, false, false, false] _ (by kernel_rfl)
     case h =>
      refine qv h36 (fun X hX => ex_move (h36.ev rfl)) fun a37 h37 => ?_
      refine qv h37 (fun X hX => ex_field (off := 4) (j := 4) (by kernel_rfl) (h37.ev rfl) rfl) fun a38 h38 => ?_
      refine qv (v := rstV r.e) h38 (fun X hX => ex_loads (by kernel_rfl) (by kernel_rfl) (h38.ev rfl) ((S32.grow hX).cellsOf (i := 2) rfl 4 3)) fun a39 h39 => ?_
      refine sq_bel h39 (wn rfl) rfl rfl (fun X => (ex_call (fun _ _ => by kernel_rfl) (h39.evs rfl) rfl)) (fun X hX => restartIn_any r.e w0 _) fun a40 h40 => ?_
      refine qv h40 (fun X hX => ex_field (off := 4) (j := 4) (by kernel_rfl) (h40.ev rfl) rfl) fun a41 h41 => ?_
      refine qv (v := rstV r.e) h41 (fun X hX => ex_loads (by kernel_rfl) (by kernel_rfl) (h41.ev rfl) ((S32.grow hX).cellsOf (i := 2) rfl 4 3)) fun a42 h42 => ?_
      refine qv h42 (fun X hX => ex_field (off := 0) (j := 0) (by kernel_rfl) (h42.ev rfl) rfl) fun a43 h43 => ?_
      refine qv h43 (fun X hX => ex_load (by kernel_rfl) (h43.ev rfl) ((S32.grow hX).cell (i := 2) rfl rfl)) fun a44 h44 => ?_
      refine sq_bel h44 (wn rfl) rfl rfl (fun X => (ex_call (fun _ _ => by kernel_rfl) (h44.evs rfl) rfl)) (fun X hX => restartPage_any r.e r.pg w1 w2 w3 (by omega) _) fun a45 h45 => ?_
      refine sq_nil ?_
      refine nd_end fun X46 hX46 hΦ46 => ?_
      have S46 := S32.grow hX46
      refine sv h45 (ex_index (i := (r.e.s % 2).toNat) (sz := 1) Tryz.underlying80 (by kernel_rfl) (h45.ev rfl) (h45.ev rfl) (by omega) (by omega) rfl) fun a47 h47 => ?_
      refine sl_rowset h47 (wn rfl) ⟨rfl, rfl⟩ (h47.ev rfl) (h47.ev rfl) rfl (by kernel_rfl) S46 (i := 0) rfl rfl (by show 0 + (r.e.s % 2).toNat * 1 + 1 ≤ r.pg.toNat * 1; omega) fun X48 S48 => ?_
      replace S48 := S48.xsEq (i := 0) (xs' := rowS (rbK r 0)) rfl (by refine (rowS_set (rb0 r) _ _ (by rw [rb0_length]; omega)).trans ?_; show _ = rowS (rb1 r); unfold rb1; rw [if_neg he])
      refine nsr ?_
      refine sv (v := ringV r A c) h47 (ex_loads (by kernel_rfl) (by kernel_rfl) (h47.ev rfl) (S48.cellsAll (i := 2) rfl)) fun a49 h49 => ?_
      refine sl_bel h49 (wn rfl) (ex_call (fun _ _ => by kernel_rfl) (h49.evs rfl) rfl) rfl rfl S48 (rooms_any r A c _ (S48.rd0 hr) hk.last hk.o hlen) fun a50 X50 h50 S50 => ?_
      refine mv h50 rfl rfl fun a51 h51 => ?_
      refine vx h51 rfl rfl rfl fun a52 h52 => ?_
      refine vx h52 rfl rfl rfl fun a53 h53 => ?_
      refine ma h53 rfl rfl fun a54 h54 => ?_
      refine ma h54 rfl rfl fun a55 h55 => ?_
      refine st_nil (go_then (st_seq (st_seq (st_reg ?_))))
      refine sv h55 (as_val (v' := .int .i64 ((roomsP r).1 + ((0 : Nat) : Int))) (congrArg _ (by omega)) (ex_move (h55.ev rfl))) fun a56 h56 => ?_
      refine ma h56 rfl rfl fun a57 h57 => ?_
      refine st_nil (go_then (wp_block ?_))
      refine st_loop h57 S50 [7, 6, 5, 3, 2, 1] (fun (k : Nat) => [(8, .int .i64 ((roomsP r).1 + (k : Int)))]) (fun (k : Nat) => (k : Int) ≤ (roomsP r).2) (fun k L => L.set 0 (.row (.slice (some ⟨g19, 0, none⟩) r.pg.toNat c19) r.pg.toNat 9 1 (rowS (rbK r k)))) (fun (k : Nat) => (roomsP r).2.toNat - k) (0) ((by show ((0 : Nat) : Int) ≤ (roomsP r).2; omega)) ⟨rfl, rfl, rfl, rfl, rfl, rfl, rfl, trivial⟩ (S50) ?_
      intro k a58 X58 hF0 h58 S58
      refine st_seq (st_seq (st_reg ?_))
      refine mv h58 rfl rfl fun a59 h59 => ?_
      refine mv h59 rfl rfl fun a60 h60 => ?_
      refine mv h60 rfl rfl fun a61 h61 => ?_
      refine sv h61 (ex_add (h61.ev rfl) (h61.ev rfl) (by omega)) fun a62 h62 => ?_
      refine sv h62 (ex_lss (h62.ev rfl) (h62.ev rfl)) fun a63 h63 => ?_
      refine st_nil (go_then ?_)
      refine st_if (h63.ev rfl) (fun hc2 => ?_) (fun hc2 => ?_)
      ·
       have hlt : (k : Int) < (roomsP r).2 := by have := of_decide_eq_true hc2; omega
       have hm : 0 ≤ ((roomsP r).1 + (k : Int)) % (r.pg - 2) ∧ ((roomsP r).1 + (k : Int)) % (r.pg - 2) < r.pg - 2 := ⟨Int.emod_nonneg _ (by omega), Int.emod_lt_of_pos _ (by omega)⟩
       refine wp_skip (go_then (st_seq (wp_block ?_)))
       apply dr_flow h63 [false, false, false, false, false, false, false] _ (by kernel_rfl)
       case h =>
        refine qv h63 (fun X hX => ex_move (h63.ev rfl)) fun a64 h64 => ?_
        refine qv (v := ringV r A c) h64 (fun X hX => ex_loads (by kernel_rfl) (by kernel_rfl) (h64.ev rfl) ((S58.grow hX).cellsAll (i := 2) rfl)) fun a65 h65 => ?_
        refine qv h65 (fun X hX => ex_move (h65.ev rfl)) fun a66 h66 => ?_
        refine sq_bel h66 (wn rfl) rfl rfl (fun X => (ex_call (fun _ _ => by kernel_rfl) (h66.evs rfl) rfl)) (fun X hX => inPage_any r A c _ (by omega) hpg _) fun a67 h67 => ?_
        refine qv (v := ringV r A c) h67 (fun X hX => ex_loads (by kernel_rfl) (by kernel_rfl) (h67.ev rfl) ((S58.grow hX).cellsAll (i := 2) rfl)) fun a68 h68 => ?_
        refine qv h68 (fun X hX => ex_move (h68.ev rfl)) fun a69 h69 => ?_
        refine sq_bel h69 (wn rfl) rfl rfl (fun X => (ex_call (fun _ _ => by kernel_rfl) (h69.evs rfl) rfl)) (fun X hX => pageOf_any r A c _ _ ((S58.grow hX).rd0 hr) hk (by omega)) fun a70 h70 => ?_
        refine sq_nil ?_
        refine nd_end fun X71 hX71 hΦ71 => ?_
        have S71 := S58.grow hX71
        refine sv h70 (ex_index (i := (2 + ((roomsP r).1 + (k : Int)) % (r.pg - 2)).toNat) (sz := 1) Tryz.underlying80 (by kernel_rfl) (h70.ev rfl) (h70.ev rfl) (by omega) (by omega) rfl) fun a72 h72 => ?_
        refine sl_rowset h72 (wn rfl) ⟨rfl, rfl⟩ (h72.ev rfl) (h72.ev rfl) rfl (by kernel_rfl) S71 (i := 0) rfl rfl (by show 0 + (2 + ((roomsP r).1 + (k : Int)) % (r.pg - 2)).toNat * 1 + 1 ≤ r.pg.toNat * 1; omega) fun X73 S73 => ?_
        replace S73 := S73.xsEq (i := 0) (xs' := rowS (rbK r (k + 1))) rfl (rowS_set (rbK r k) _ _ (by rw [rbK_length]; omega))
        refine st_nil (go_block (go_then (st_reg ?_)))
        refine mv h72 rfl rfl fun a74 h74 => ?_
        refine sv h74 (as_val (v' := .int .i64 ((roomsP r).1 + ((k + 1 : Nat) : Int))) (congrArg _ (by omega)) (ex_add (h74.ev rfl) (h74.ev rfl) (by omega))) fun a75 h75 => ?_
        refine ma h75 rfl rfl fun a76 h76 => ?_
        refine st_nil (go_then ?_)
        exact ⟨k + 1, by omega, by omega, h76.re ⟨rfl, rfl, rfl, rfl, rfl, rfl, rfl, trivial⟩, S73⟩
       case hB => kernel_rfl
       case hst => rfl
      ·
       have hge : k = (roomsP r).2.toNat := by have := of_decide_eq_false hc2; omega
       have hcap := row_le (S58.at_ (i := 0) rfl)
       refine wp_exit ?_
       refine go_exit_then ?_
       refine go_exit_then ?_
       refine go_exit ?_
       refine go_then (st_seq (st_reg ?_))
       refine mv h63 rfl rfl fun a77 h77 => ?_
       refine sl_bel h77 (wn rfl) (ex_call (fun _ _ => by kernel_rfl) (h77.evs rfl) rfl) rfl rfl S58 ((by have q := joinS_any (rbK r k) g19 c19 _ (S58.rdOf (i := 0) rfl) (by rw [rbK_length]; omega) (by rw [rbK_length]; exact hcap) (by rw [rbK_length]; omega) (rbK_all r hk k); rw [rbK_length] at q; exact q)) fun a78 X78 h78 S78 => ?_
       refine ma h78 rfl rfl fun a79 h79 => ?_
       refine ma h79 rfl rfl fun a80 h80 => ?_
       refine st_nil (go_then (wp_ret ?_))
       refine fin2 h80 rfl rfl rfl ?_
       exact ⟨by rw [if_pos hz, hz, hge]; rfl, S78.below⟩
     case hB => kernel_rfl
     case hst => rfl
    ·
     have he : r.e = rst0 := by
      have e1 : (!eqL [.int .i64 r.e.s, .int .i64 r.e.c, .int .i64 r.e.o] [.int .i64 rst0.s, .int .i64 rst0.c, .int .i64 rst0.o]) = false := hc1
      rw [rst_eqL] at e1; simpa using e1
     replace S32 := S32.xsEq (i := 0) (xs' := rowS (rbK r 0)) rfl (by show rowS (rb0 r) = rowS (rb1 r); unfold rb1; rw [if_pos he])
     refine wp_skip (go_then (st_seq (st_reg ?_)))
     refine sv (v := ringV r A c) h36 (ex_loads (by kernel_rfl) (by kernel_rfl) (h36.ev rfl) (S32.cellsAll (i := 2) rfl)) fun a81 h81 => ?_
     refine sl_bel h81 (wn rfl) (ex_call (fun _ _ => by kernel_rfl) (h81.evs rfl) rfl) rfl rfl S32 (rooms_any r A c _ (S32.rd0 hr) hk.last hk.o hlen) fun a82 X82 h82 S82 => ?_
     refine mv h82 rfl rfl fun a83 h83 => ?_
     refine vx h83 rfl rfl rfl fun a84 h84 => ?_
     refine vx h84 rfl rfl rfl fun a85 h85 => ?_
     refine ma h85 rfl rfl fun a86 h86 => ?_
     refine ma h86 rfl rfl fun a87 h87 => ?_
     refine st_nil (go_then (st_seq (st_seq (st_reg ?_))))
     refine sv h87 (as_val (v' := .int .i64 ((roomsP r).1 + ((0 : Nat) : Int))) (congrArg _ (by omega)) (ex_move (h87.ev rfl))) fun a88 h88 => ?_
     refine ma h88 rfl rfl fun a89 h89 => ?_
     refine st_nil (go_then (wp_block ?_))
     refine st_loop h89 S82 [7, 6, 5, 3, 2, 1] (fun (k : Nat) => [(8, .int .i64 ((roomsP r).1 + (k : Int)))]) (fun (k : Nat) => (k : Int) ≤ (roomsP r).2) (fun k L => L.set 0 (.row (.slice (some ⟨g19, 0, none⟩) r.pg.toNat c19) r.pg.toNat 9 1 (rowS (rbK r k)))) (fun (k : Nat) => (roomsP r).2.toNat - k) (0) ((by show ((0 : Nat) : Int) ≤ (roomsP r).2; omega)) ⟨rfl, rfl, rfl, rfl, rfl, rfl, rfl, trivial⟩ (S82) ?_
     intro k a90 X90 hF0 h90 S90
     refine st_seq (st_seq (st_reg ?_))
     refine mv h90 rfl rfl fun a91 h91 => ?_
     refine mv h91 rfl rfl fun a92 h92 => ?_
     refine mv h92 rfl rfl fun a93 h93 => ?_
     refine sv h93 (ex_add (h93.ev rfl) (h93.ev rfl) (by omega)) fun a94 h94 => ?_
     refine sv h94 (ex_lss (h94.ev rfl) (h94.ev rfl)) fun a95 h95 => ?_
     refine st_nil (go_then ?_)
     refine st_if (h95.ev rfl) (fun hc2 => ?_) (fun hc2 => ?_)
     ·
      have hlt : (k : Int) < (roomsP r).2 := by have := of_decide_eq_true hc2; omega
      have hm : 0 ≤ ((roomsP r).1 + (k : Int)) % (r.pg - 2) ∧ ((roomsP r).1 + (k : Int)) % (r.pg - 2) < r.pg - 2 := ⟨Int.emod_nonneg _ (by omega), Int.emod_lt_of_pos _ (by omega)⟩
      refine wp_skip (go_then (st_seq (wp_block ?_)))
      apply dr_flow h95 [false, false, false, false, false, false, false] _ (by kernel_rfl)
      case h =>
       refine qv h95 (fun X hX => ex_move (h95.ev rfl)) fun a96 h96 => ?_
       refine qv (v := ringV r A c) h96 (fun X hX => ex_loads (by kernel_rfl) (by kernel_rfl) (h96.ev rfl) ((S90.grow hX).cellsAll (i := 2) rfl)) fun a97 h97 => ?_
       refine qv h97 (fun X hX => ex_move (h97.ev rfl)) fun a98 h98 => ?_
       refine sq_bel h98 (wn rfl) rfl rfl (fun X => (ex_call (fun _ _ => by kernel_rfl) (h98.evs rfl) rfl)) (fun X hX => inPage_any r A c _ (by omega) hpg _) fun a99 h99 => ?_
       refine qv (v := ringV r A c) h99 (fun X hX => ex_loads (by kernel_rfl) (by kernel_rfl) (h99.ev rfl) ((S90.grow hX).cellsAll (i := 2) rfl)) fun a100 h100 => ?_
       refine qv h100 (fun X hX => ex_move (h100.ev rfl)) fun a101 h101 => ?_
       refine sq_bel h101 (wn rfl) rfl rfl (fun X => (ex_call (fun _ _ => by kernel_rfl) (h101.evs rfl) rfl)) (fun X hX => pageOf_any r A c _ _ ((S90.grow hX).rd0 hr) hk (by omega)) fun a102 h102 => ?_
       refine sq_nil ?_
       refine nd_end fun X103 hX103 hΦ103 => ?_
       have S103 := S90.grow hX103
       refine sv h102 (ex_index (i := (2 + ((roomsP r).1 + (k : Int)) % (r.pg - 2)).toNat) (sz := 1) Tryz.underlying80 (by kernel_rfl) (h102.ev rfl) (h102.ev rfl) (by omega) (by omega) rfl) fun a104 h104 => ?_
       refine sl_rowset h104 (wn rfl) ⟨rfl, rfl⟩ (h104.ev rfl) (h104.ev rfl) rfl (by kernel_rfl) S103 (i := 0) rfl rfl (by show 0 + (2 + ((roomsP r).1 + (k : Int)) % (r.pg - 2)).toNat * 1 + 1 ≤ r.pg.toNat * 1; omega) fun X105 S105 => ?_
       replace S105 := S105.xsEq (i := 0) (xs' := rowS (rbK r (k + 1))) rfl (rowS_set (rbK r k) _ _ (by rw [rbK_length]; omega))
       refine st_nil (go_block (go_then (st_reg ?_)))
       refine mv h104 rfl rfl fun a106 h106 => ?_
       refine sv h106 (as_val (v' := .int .i64 ((roomsP r).1 + ((k + 1 : Nat) : Int))) (congrArg _ (by omega)) (ex_add (h106.ev rfl) (h106.ev rfl) (by omega))) fun a107 h107 => ?_
       refine ma h107 rfl rfl fun a108 h108 => ?_
       refine st_nil (go_then ?_)
       exact ⟨k + 1, by omega, by omega, h108.re ⟨rfl, rfl, rfl, rfl, rfl, rfl, rfl, trivial⟩, S105⟩
      case hB => kernel_rfl
      case hst => rfl
     ·
      have hge : k = (roomsP r).2.toNat := by have := of_decide_eq_false hc2; omega
      have hcap := row_le (S90.at_ (i := 0) rfl)
      refine wp_exit ?_
      refine go_exit_then ?_
      refine go_exit_then ?_
      refine go_exit ?_
      refine go_then (st_seq (st_reg ?_))
      refine mv h95 rfl rfl fun a109 h109 => ?_
      refine sl_bel h109 (wn rfl) (ex_call (fun _ _ => by kernel_rfl) (h109.evs rfl) rfl) rfl rfl S90 ((by have q := joinS_any (rbK r k) g19 c19 _ (S90.rdOf (i := 0) rfl) (by rw [rbK_length]; omega) (by rw [rbK_length]; exact hcap) (by rw [rbK_length]; omega) (rbK_all r hk k); rw [rbK_length] at q; exact q)) fun a110 X110 h110 S110 => ?_
      refine ma h110 rfl rfl fun a111 h111 => ?_
      refine ma h111 rfl rfl fun a112 h112 => ?_
      refine st_nil (go_then (wp_ret ?_))
      refine fin2 h112 rfl rfl rfl ?_
      exact ⟨by rw [if_pos hz, hz, hge]; rfl, S110.below⟩
   case hB => kernel_rfl
   case hst => rfl
  case hB => kernel_rfl
  case hst => rfl
end Go.Proofs.YtmlilplbdpjfcaaGreatDoor
