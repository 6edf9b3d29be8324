/-
  strings.Builder beside other things of one's own: copyCheck, WriteString, String.
-/
import Derived.Test.YtmlilplbdpjfcaaGreatDoorSplC
import Derived.Test.YtmlilplbdpjfcaaGreatDoorTiny
import Derived.Lib.Builder
import Derived.Lib.UnsafeStr
namespace Go.Proofs.YtmlilplbdpjfcaaGreatDoor
set_option linter.unusedVariables false
set_option linter.unusedSimpArgs false
open Go.RowKit Go.Sort
theorem size_bld : (Tryz.prog.info? 169).map (·.size) = some 2 := by kernel_rfl
theorem lies_bld : liesAt Tryz.prog Tryz.prog.depth 169 (2 / Tryz.prog.cellsOf 169) 0 169 1 = true := by kernel_rfl
theorem noEsc_run (x : Value) (W : World) : (callFunc 165 #[x]).run Tryz.prog W = .ok (.value x) W := by
 rw [run_callFunc_extern Tryz.func165 (by kernel_rfl) (by kernel_rfl) (by kernel_rfl) (e := Extern.AbiNoEscape.same) (by kernel_rfl), Lib.run_noEscape]
 rfl
set_option maxRecDepth 100000 in
theorem cpyCheck_used (b : Nat) (w : World) (h0 : w.cell? ⟨b, 0, none⟩ = some (.pointer (some ⟨b, 0, none⟩))) :
 Calls Tryz.prog 145 #[.pointer (some ⟨b, 0, none⟩)] w fun e w' => e = .returned (.tuple #[]) ∧ w = w' := by
 obtain ⟨j, hj, _⟩ := Option.map_eq_some_iff.1 size_bld
 have hq := fun W => Lib.run_neq_ptr_same (P := Tryz.prog) W ⟨b, 0, none⟩ Tryz.underlying167 hj
 go_enter Tryz.func145, Tryz.ntmps145
 go_wp2
 go_end0
 exact ⟨rfl, rfl⟩
set_option maxRecDepth 100000 in
theorem cpyCheck_fresh (b : Nat) (w : World) (h0 : w.cell? ⟨b, 0, none⟩ = some (.pointer none)) (hsh : w.shape? b = some (169, 2)) (hfz : w.frozen? ⟨b, 0, none⟩ = false) :
 Calls Tryz.prog 145 #[.pointer (some ⟨b, 0, none⟩)] w fun e w' => e = .returned (.tuple #[]) ∧ w.setCell ⟨b, 0, none⟩ (.pointer (some ⟨b, 0, none⟩)) = w' := by
 obtain ⟨j, hj, hjs⟩ := Option.map_eq_some_iff.1 size_bld
 have h1 := Lib.run_to_unsafe (P := Tryz.prog) w ⟨b, 0, none⟩ Tryz.underlying167 Tryz.underlying206 hj (by rw [hjs]; decide) hsh (Nat.zero_lt_succ 1)
 have h2 := noEsc_run (.pointer (some ⟨b, 0, none⟩))
 have h3 := Lib.run_from_unsafe (P := Tryz.prog) w ⟨b, 0, none⟩ Tryz.underlying206 Tryz.underlying167 hj hsh lies_bld
 go_enter Tryz.func145, Tryz.ntmps145
 go_wp2
 go_end0
 exact ⟨rfl, rfl⟩
def bldP (used : Bool) (b : Nat) : Value := .pointer (if used then some ⟨b, 0, none⟩ else none)
def bldD (b : Nat) (v : Value) (k : Nat) : Prop := k = b ∨ v.ownBlock = some k
structure BldOk (used : Bool) (b : Nat) (v : Value) (l : List UInt8) (X : World) : Prop where
 box : Box X b #[bldP used b, v] 169
 row : X.ownsRow 0 5 1 v l.length (l.map byteV)
 ne : v.ownBlock ≠ some b
 nz : v = .slice none 0 0 ∨ l ≠ []
theorem BldOk.stable {used : Bool} {b : Nat} {v : Value} {l : List UInt8} (X X' : World) (h : BldOk used b v l X) (hb : ∀ k, bldD b v k → X'.heap[k]? = X.heap[k]?) : BldOk used b v l X' :=
 ⟨(hb b (.inl rfl)).trans h.box, Ent.ok_of (e := .row v l.length 5 1 (l.map byteV)) h.row (fun k hk => hb k (.inr hk)), h.ne, h.nz⟩
def bldE (used : Bool) (b : Nat) (v : Value) (l : List UInt8) : Ent := .inv (bldD b v) (BldOk used b v l) BldOk.stable
def bldM (b : Nat) (v : Value) : List Nat := b :: v.ownBlock.toList
theorem mem_bldM {b k : Nat} {v : Value} : k ∈ bldM b v ↔ bldD b v k := by
 unfold bldM bldD
 cases v.ownBlock <;> simp [eq_comm]
theorem St.bld0 {M : List Nat} {w X : World} {L : List Ent} {b : Nat} (h : St M w X (.box b #[.pointer none, .slice none 0 0] 169 :: L)) : St M w X (bldE false b (.slice none 0 0) [] :: L) :=
 h.as1 (e := bldE false b (.slice none 0 0) []) (fun k hk => by
  rcases hk with hk | hk
  · exact hk
  · cases hk) ⟨h.at_ (i := 0) rfl, ⟨rfl, .inl ⟨rfl, rfl⟩⟩, (fun h => by cases h), .inl rfl⟩
theorem St.bldIn {M : List Nat} {w X : World} {L : List Ent} {b : Nat} {used : Bool} {v : Value} {l : List UInt8} (h : St M w X (bldE used b v l :: L)) : St M w X (.box b #[bldP used b, v] 169 :: .row v l.length 5 1 (l.map byteV) :: L) := by
 have hok : BldOk used b v l X := h.at_ (i := 0) rfl
 exact St.unpack (D := bldD b v) (φ := BldOk used b v l) (st := BldOk.stable) h hok.box hok.row (fun k hk => ⟨.inl hk, fun h2 => hok.ne (by rw [show b = k from hk.symm]; exact h2)⟩) (fun k hk => .inr hk)
theorem St.bldOut {M : List Nat} {w X : World} {L : List Ent} {b : Nat} {used : Bool} {v : Value} {l : List UInt8} (hz : l ≠ []) (h : St M w X (.box b #[bldP used b, v] 169 :: .row v l.length 5 1 (l.map byteV) :: L)) : St M w X (bldE used b v l :: L) :=
 h.pack (D := bldD b v) (st := BldOk.stable) (fun k hk => hk) ⟨h.at_ (i := 0) rfl, h.at_ (i := 1) rfl, fun h2 => (List.pairwise_cons.1 h.sep).1 _ (List.mem_cons_self ..) b rfl h2, .inr hz⟩
theorem copyCheck_st {used : Bool} {b : Nat} {v : Value} (w : World) (hb : Box w b #[bldP used b, v] 169) :
 Calls Tryz.prog 145 #[.pointer (some ⟨b, 0, none⟩)] w fun e w' => e = .returned (.tuple #[]) ∧ St [b] w w' [.box b #[bldP true b, v] 169] := by
 have hlt := Box.lt hb
 cases used with
 | true =>
  refine (cpyCheck_used b w (box_cell hb (j := 0) rfl)).mono ?_
  rintro e w' ⟨rfl, rfl⟩
  refine ⟨rfl, rfl, rfl, rfl, Nat.le_refl _, fun _ _ _ => rfl, fun e he => by rw [List.mem_singleton.1 he]; exact hb, fun e he k hk => ?_, .cons (fun _ h => by cases h) .nil⟩
  rw [List.mem_singleton.1 he] at hk
  rw [show k = b from hk]; exact ⟨.inr (List.mem_singleton.2 rfl), hlt⟩
 | false =>
  have hb' : w.heap[b]? = some (.cells #[.pointer none, v] 169 (0, 0)) := hb
  refine (cpyCheck_fresh b w (box_cell hb (j := 0) rfl) (by simp [World.shape?, hb']) (Lib.frozen_of_heap hb' 0)).mono ?_
  rintro e w' ⟨rfl, rfl⟩
  have hbx : Box (w.setCell ⟨b, 0, none⟩ (.pointer (some ⟨b, 0, none⟩))) b #[bldP true b, v] 169 := by
   unfold Box World.setCell
   simp [Array.getElem?_modify, hb', bldP]
  refine ⟨rfl, rfl, rfl, rfl, by simp [World.setCell], fun k hk hne => Below.heap_setCell _ _ _ _ (fun e => hne (by rw [e]; exact List.mem_singleton.2 rfl)), fun e he => by rw [List.mem_singleton.1 he]; exact hbx, fun e he k hk => ?_, .cons (fun _ h => by cases h) .nil⟩
  rw [List.mem_singleton.1 he] at hk
  rw [show k = b from hk]; exact ⟨.inr (List.mem_singleton.2 rfl), by simpa [World.setCell] using hlt⟩
theorem WriteString_st {used : Bool} {b : Nat} {v : Value} (l s : List UInt8) (w : World) (hok : BldOk used b v l w) (hlt : ∀ k, bldD b v k → k < w.heap.size) (hl : l.length + s.length ≤ 100000) (hz : s ≠ []) :
 Calls Tryz.prog 131 #[.pointer (some ⟨b, 0, none⟩), .string (bs s)] w fun e w' => ∃ p : Value, e = .returned (.tuple #[.int .i64 s.length, .nilIface]) ∧ True ∧ St (bldM b v) w w' [bldE true b p (l ++ s)] := by
 have hsz : (bs s).size = s.length := bs_size s
 refine st_enter (N := 19) Tryz.func131 rfl rfl rfl (fun a0 h0 => ?_)
 have S0 := (St.initInv hok (fun k hk => ⟨mem_bldM.2 hk, hlt k hk⟩) : St (bldM b v) w w [bldE used b v l]).bldIn
 refine st_seq (st_reg ?_)
 refine ma h0 rfl rfl fun a1 h1 => ?_
 refine ma h1 rfl rfl fun a2 h2 => ?_
 refine nsr ?_
 refine mv h2 rfl rfl fun a3 h3 => ?_
 refine sl_upd h3 (wn rfl) (ex_call (fun _ _ => by kernel_rfl) (h3.evs rfl) rfl) S0 (i := 0) rfl rfl (copyCheck_st _ (S0.at_ (i := 0) rfl)) fun a4 X4 hq4 S4 => ?_
 have h4 := hq4 rfl
 refine nsr ?_
 refine mv h4 rfl rfl fun a5 h5 => ?_
 refine mv h5 rfl rfl fun a6 h6 => ?_
 refine sv h6 (ex_nilck (h6.ev rfl)) fun a7 h7 => ?_
 refine vf h7 1 1 rfl rfl rfl fun a8 h8 => ?_
 refine vl h8 S4 0 rfl rfl rfl rfl fun a9 h9 => ?_
 refine mv h9 rfl rfl fun a10 h10 => ?_
 refine sl_appstr h10 (wn rfl) ⟨rfl, rfl⟩ rfl Tryz.underlying130 Tryz.underlying9 (by kernel_rfl) (h10.ev rfl) (h10.ev rfl) S4 (i := 1) rfl (by omega) fun A14 c14 a11 X11 h11 S11 => ?_
 refine sv h11 (ex_nilck (h11.ev rfl)) fun a12 h12 => ?_
 refine vf h12 1 1 rfl rfl rfl fun a13 h13 => ?_
 refine sl_store h13 (wn rfl) ⟨rfl, rfl⟩ (h13.ev rfl) (h13.ev rfl) rfl (by kernel_rfl) S11 (i := 0) rfl rfl rfl fun X14 S14 => ?_
 refine nsr ?_
 refine mv h13 rfl rfl fun a15 h15 => ?_
 refine sv h15 (ex_slen Tryz.underlying9 (h15.ev rfl)) fun a16 h16 => ?_
 refine ma h16 rfl rfl fun a17 h17 => ?_
 refine ma h17 rfl rfl fun a18 h18 => ?_
 refine st_nil (go_then (wp_ret ?_))
 refine fin2 h18 rfl rfl rfl ?_
 have e1 : (bs s).size = s.length := bs_size s
 have e3 : l.map byteV ++ (bl (bs s)).map byteV = (l ++ s).map byteV := by rw [bl_bs, List.map_append]
 have S9 := S14
 rw [e1, e3, ← List.length_append] at S9
 exact ⟨_, by rw [e1], trivial, St.bldOut (by simp [hz]) S9⟩
section
variable {P : Program} {ρ : Operand → Value} {X : World} {d : Option Tmp} {ty : TypeId} {ps : String} {af : Array Edge} {g : Option (Nat × Bool)}
theorem ex_usd {x : Operand} {t : TypeId} {a : Addr} {n c : Nat} (hx : ρ x = .slice (some a) n c) (hc : c ≠ 0) : (execOp ρ ⟨d, .call ⟨.builtin .unsafeSliceData, #[x], #[t]⟩, ty, ps, af, g⟩).run P X = .ok (.value (.pointer (some a))) X := by
 simp [execOp, resolve, invoke, builtin, hx, Lib.run_unsafeSliceData_row X _ _ a n c hc]
theorem ex_usd0 {x : Operand} {t : TypeId} {n c : Nat} (hx : ρ x = .slice none n c) : (execOp ρ ⟨d, .call ⟨.builtin .unsafeSliceData, #[x], #[t]⟩, ty, ps, af, g⟩).run P X = .ok (.value (.pointer none)) X := by
 simp [execOp, resolve, invoke, builtin, hx, Lib.run_unsafeSliceData_nil]
theorem ex_ustr0 {x y : Operand} {t u : TypeId} (hx : ρ x = .pointer none) (hy : ρ y = .int .i64 0) : (execOp ρ ⟨d, .call ⟨.builtin .unsafeString, #[x, y], #[t, u]⟩, ty, ps, af, g⟩).run P X = .ok (.value (.string ⟨#[]⟩)) X := by
 have := Lib.run_unsafeString_none (P := P) X t u ty none
 simp [execOp, resolve, invoke, builtin, hx, hy, this]; rfl
theorem ex_ustr {x y : Operand} {t u e : TypeId} {b cells : Nat} {m : Int} {l : List UInt8} (hp : P.underlying t = some (.pointer e)) (hc : P.cellsOf e = 1) (hx : ρ x = .pointer (some ⟨b, 0, none⟩)) (hy : ρ y = .int .i64 m) (hm : m = l.length) (hsh : X.shape? b = some (e, cells)) (h0 : l ≠ []) (hn : l.length ≤ cells) (h63 : l.length ≤ 100000)
 (hcell : ∀ j x, l[j]? = some x → X.cell? ((⟨b, 0, none⟩ : Addr).add j) = some (.int .u8 x.toNat)) :
 (execOp ρ ⟨d, .call ⟨.builtin .unsafeString, #[x, y], #[t, u]⟩, ty, ps, af, g⟩).run P X = .ok (.value (.string (bs l))) (X.freeze ⟨b, 0, none⟩ l.length) := by
 subst hm
 have := Lib.run_unsafeString_row (P := P) X t u ty e hp hc b cells hsh l h0 hn (by omega) hcell
 simp [execOp, resolve, invoke, builtin, hx, hy, this]; rfl
end
theorem cells_u8 : Tryz.prog.cellsOf 5 = 1 := by kernel_rfl
theorem String_nil {used : Bool} {b : Nat} (w : World) (hok : BldOk used b (.slice none 0 0) [] w) (hlt : ∀ k, bldD b (.slice none 0 0) k → k < w.heap.size) :
 Calls Tryz.prog 132 #[.pointer (some ⟨b, 0, none⟩)] w fun e w' => e = .returned (.string ⟨#[]⟩) ∧ St (bldM b (.slice none 0 0)) w w' [bldE used b (.slice none 0 0) []] := by
 refine st_enter (N := 14) Tryz.func132 rfl rfl rfl (fun a0 h0 => ?_)
 have S0 := (St.initInv hok (fun k hk => ⟨mem_bldM.2 hk, hlt k hk⟩) : St (bldM b (.slice none 0 0)) w w [bldE used b (.slice none 0 0) []])
 refine st_seq (st_reg ?_)
 refine ma h0 rfl rfl fun a1 h1 => ?_
 refine st_nil (go_then (st_seq ?_))
 apply dr_flow h1 [false, false, false, false, false, false, false, false, false, false] _ (by kernel_rfl)
 case h =>
  refine qv h1 (fun X hX => ex_move (h1.ev rfl)) fun a2 h2 => ?_
  refine qv h2 (fun X hX => ex_nilck (h2.ev rfl)) fun a3 h3 => ?_
  refine qv h3 (fun X hX => ex_field (off := 1) (by kernel_rfl) (h3.ev rfl) rfl) fun a4 h4 => ?_
  refine qv h4 (fun X hX => ex_load (by kernel_rfl) (h4.ev rfl) ((box_all ((S0.grow hX).at_ (i := 0) rfl).box) 1 _ rfl)) fun a5 h5 => ?_
  refine qv h5 (fun X hX => ex_usd0 (h5.ev rfl)) fun a6 h6 => ?_
  refine qv h6 (fun X hX => ex_move (h6.ev rfl)) fun a7 h7 => ?_
  refine qv h7 (fun X hX => ex_nilck (h7.ev rfl)) fun a8 h8 => ?_
  refine qv h8 (fun X hX => ex_field (off := 1) (by kernel_rfl) (h8.ev rfl) rfl) fun a9 h9 => ?_
  refine qv h9 (fun X hX => ex_load (by kernel_rfl) (h9.ev rfl) ((box_all ((S0.grow hX).at_ (i := 0) rfl).box) 1 _ rfl)) fun a10 h10 => ?_
  refine qv h10 (fun X hX => ex_len Tryz.underlying130 (h10.ev rfl)) fun a11 h11 => ?_
  refine sq_nil ?_
  refine nd_end fun X12 hX12 hΦ12 => ?_
  have S12 := S0.grow hX12
  refine sv h11 (ex_ustr0 (h11.ev rfl) (h11.ev rfl)) fun a13 h13 => ?_
  refine ma h13 rfl rfl fun a14 h14 => ?_
  refine st_nil (go_then (wp_ret ?_))
  refine fin1 h14 rfl rfl ?_
  exact ⟨rfl, S12⟩
 case hB => kernel_rfl
 case hst => rfl
theorem St.freeze {M : List Nat} {w X : World} {b g n : Nat} {c0 : Nat} {used : Bool} {l : List UInt8} (h : St M w X [bldE used b (.slice (some ⟨g, 0, none⟩) n c0) l]) (m : Nat) : St M w (X.freeze ⟨g, 0, none⟩ m) [.inv (bldD b (.slice (some ⟨g, 0, none⟩) n c0)) (fun _ => True) (fun _ _ _ _ => trivial)] := by
 have hb : ∀ k, k ≠ g → (X.freeze ⟨g, 0, none⟩ m).heap[k]? = X.heap[k]? := fun k hk => by
  unfold World.freeze
  split
  · rfl
  · simp only [Array.getElem?_modify]
    rw [if_neg (fun e => hk e.symm)]
 have hs : (X.freeze ⟨g, 0, none⟩ m).heap.size = X.heap.size := by
  unfold World.freeze
  split <;> simp
 refine h.turn (i := 0) rfl ?_ ?_ ?_ (by rw [hs]; exact Nat.le_refl _) (fun k hk hne => hb k (fun e => hne (.inr (by rw [e]; rfl)))) trivial (fun k hk => ⟨.inl hk, ?_⟩)
 · unfold World.freeze; split <;> rfl
 · unfold World.freeze; split <;> rfl
 · unfold World.freeze; split <;> rfl
 · rw [hs]; exact (h.new _ (List.mem_cons_self ..) k hk).2
theorem row_str {X : World} {g c : Nat} {l : List UInt8} (h : X.ownsRow 0 5 1 (.slice (some ⟨g, 0, none⟩) l.length c) l.length (l.map byteV)) (hz : l ≠ []) :
 ∃ cells, X.shape? g = some (5, cells) ∧ l.length ≤ cells ∧ (∀ j x, l[j]? = some x → X.cell? ((⟨g, 0, none⟩ : Addr).add j) = some (.int .u8 x.toNat)) ∧ c ≠ 0 := by
 have hcl := fun j u (hu : (l.map byteV)[j]? = some u) => h.cells (g := g) rfl j u hu
 obtain ⟨_, h1⟩ := h
 rcases h1 with ⟨h2, _⟩ | ⟨g', cap, cur, e1, _, hg, hnc, _, hcs, _⟩
 · cases h2
 · injection e1 with e1 _ e3
   injection e1 with e1
   injection e1 with e1
   subst e1 e3
   have hpos : 0 < l.length := List.length_pos_iff.2 hz
   refine ⟨cur.size, by simp [World.shape?, hg], by omega, fun j x hx => hcl j _ (by rw [List.getElem?_map, hx]; rfl), by omega⟩
theorem String_row {used : Bool} {b g c0 : Nat} {l : List UInt8} (w : World) (hok : BldOk used b (.slice (some ⟨g, 0, none⟩) l.length c0) l w) (hlt : ∀ k, bldD b (.slice (some ⟨g, 0, none⟩) l.length c0) k → k < w.heap.size) (hz0 : l ≠ []) (hl : l.length ≤ 100000) :
 Calls Tryz.prog 132 #[.pointer (some ⟨b, 0, none⟩)] w fun e w' => e = .returned (.string (bs l)) ∧ St (bldM b (.slice (some ⟨g, 0, none⟩) l.length c0)) w w' [.inv (bldD b (.slice (some ⟨g, 0, none⟩) l.length c0)) (fun _ => True) (fun _ _ _ _ => trivial)] := by
 obtain ⟨_, _, _, _, hc0⟩ := row_str hok.row hz0
 refine st_enter (N := 14) Tryz.func132 rfl rfl rfl (fun a0 h0 => ?_)
 have S0 := (St.initInv hok (fun k hk => ⟨mem_bldM.2 hk, hlt k hk⟩) : St (bldM b (.slice (some ⟨g, 0, none⟩) l.length c0)) w w [bldE used b (.slice (some ⟨g, 0, none⟩) l.length c0) l])
 refine st_seq (st_reg ?_)
 refine ma h0 rfl rfl fun a1 h1 => ?_
 refine st_nil (go_then (st_seq ?_))
 apply dr_flow h1 [false, false, false, false, false, false, false, false, false, false] _ (by kernel_rfl)
 case h =>
  refine qv h1 (fun X hX => ex_move (h1.ev rfl)) fun a2 h2 => ?_
  refine qv h2 (fun X hX => ex_nilck (h2.ev rfl)) fun a3 h3 => ?_
  refine qv h3 (fun X hX => ex_field (off := 1) (by kernel_rfl) (h3.ev rfl) rfl) fun a4 h4 => ?_
  refine qv h4 (fun X hX => ex_load (by kernel_rfl) (h4.ev rfl) ((box_all ((S0.grow hX).at_ (i := 0) rfl).box) 1 _ rfl)) fun a5 h5 => ?_
  refine qv h5 (fun X hX => ex_usd (h5.ev rfl) hc0) fun a6 h6 => ?_
  refine qv h6 (fun X hX => ex_move (h6.ev rfl)) fun a7 h7 => ?_
  refine qv h7 (fun X hX => ex_nilck (h7.ev rfl)) fun a8 h8 => ?_
  refine qv h8 (fun X hX => ex_field (off := 1) (by kernel_rfl) (h8.ev rfl) rfl) fun a9 h9 => ?_
  refine qv h9 (fun X hX => ex_load (by kernel_rfl) (h9.ev rfl) ((box_all ((S0.grow hX).at_ (i := 0) rfl).box) 1 _ rfl)) fun a10 h10 => ?_
  refine qv h10 (fun X hX => ex_len Tryz.underlying130 (h10.ev rfl)) fun a11 h11 => ?_
  refine sq_nil ?_
  refine nd_end fun X12 hX12 hΦ12 => ?_
  have S12 := S0.grow hX12
  obtain ⟨cells, g1, g2, g3, _⟩ := row_str (S12.at_ (i := 0) rfl).row hz0
  refine sv h11 (ex_ustr Tryz.underlying187 cells_u8 (h11.ev rfl) (h11.ev rfl) rfl g1 hz0 g2 hl g3) fun a13 h13 => ?_
  refine ma h13 rfl rfl fun a14 h14 => ?_
  refine st_nil (go_then (wp_ret ?_))
  refine fin1 h14 rfl rfl ?_
  exact ⟨rfl, S12.freeze _⟩
 case hB => kernel_rfl
 case hst => rfl
theorem String_st {used : Bool} {b : Nat} {v : Value} (l : List UInt8) (w : World) (hok : BldOk used b v l w) (hlt : ∀ k, bldD b v k → k < w.heap.size) (hl : l.length ≤ 100000) :
 Calls Tryz.prog 132 #[.pointer (some ⟨b, 0, none⟩)] w fun e w' => ∃ p : Unit, e = .returned (.string (bs l)) ∧ True ∧ St (bldM b v) w w' [.inv (bldD b v) (fun _ => True) (fun _ _ _ _ => trivial)] := by
 obtain ⟨hxl, hrow⟩ := hok.row
 rcases hrow with ⟨rfl, hn⟩ | ⟨g, cap, cur, rfl, _⟩
 · have hl0 : l = [] := by simpa using hn
   subst hl0
   refine (String_nil w hok hlt).mono ?_
   rintro e w' ⟨rfl, hS⟩
   exact ⟨(), rfl, trivial, hS.as_i (i := 0) rfl (fun k hk => hk) trivial⟩
 · have hz : l ≠ [] := by
    rcases hok.nz with h | h
    · cases h
    · exact h
   refine (String_row w hok hlt hz hl).mono ?_
   rintro e w' ⟨rfl, hS⟩
   exact ⟨(), rfl, trivial, hS⟩
end Go.Proofs.YtmlilplbdpjfcaaGreatDoor
