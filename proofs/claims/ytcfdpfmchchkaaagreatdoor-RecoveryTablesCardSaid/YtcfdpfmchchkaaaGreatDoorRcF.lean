/-
  Chapter 22: rows of structs that are sorted by numbers.
  Chapter 22: a table in order.
  Chapter 22: a table in order; analysis.
  Chapter 22: analysis.
-/
import Derived.Test.YtcfdpfmchchkaaaGreatDoorRcE
import Derived.Test.YtcfdpfmchchkaaaGreatDoorShelf
import Derived.Shelf.SlSortCmp.WholeK
import Derived.Shelf.SlSortCmp.NoneTotal
namespace Go.Proofs.YtcfdpfmchchkaaaGreatDoor
set_option linter.unusedVariables false
set_option linter.unusedSimpArgs false
set_option maxRecDepth 4000
open Go.RowKit Go.Sort Go.Shelf
theorem flatK_list {α : Type} [Inhabited α] {enc : α → List Value} {k : Nat} (hk : ∀ x, (enc x).length = k) (h0 : 0 < k) (d : Array α) : (flatK enc k d).toList = d.toList.flatMap enc := by
 apply List.ext_getElem?
 intro t
 have hs : (flatK enc k d).size = d.size * k := size_flatK enc k d
 by_cases ht : t < d.size * k
 · have h1 : t / k < d.size := by rw [Nat.div_lt_iff_lt_mul h0]; exact ht
   have h2 : t % k < k := Nat.mod_lt _ h0
   have h3 := get_flatK enc k d t ht
   have e1 : (flatK enc k d).toList[t]? = some (flatK enc k d)[t]! := by
    rw [Array.getElem?_toList, Array.getElem?_eq_getElem (by rw [hs]; exact ht), getElem!_pos _ t (by rw [hs]; exact ht)]
   rw [e1, h3]
   have e2 : d[t / k]! = d.toList[t / k]'(by simpa using h1) := by rw [getElem!_pos d _ h1]; rfl
   have h4 := flatF_get hk d.toList (k := t / k) (by simpa using h1) (j := t % k) (u := (enc d[t / k]!)[t % k]!) (by
    rw [← e2, List.getElem?_eq_getElem (by rw [hk]; exact h2), getElem!_pos (enc d[t / k]!) (t % k) (by rw [hk]; exact h2)])
   rw [Nat.div_add_mod' t k] at h4
   exact h4.symm
 · have hl : (d.toList.flatMap enc).length = d.size * k := by
    rw [flat_len hk d.toList, Array.length_toList, Nat.mul_comm]
   rw [List.getElem?_eq_none (by rw [Array.length_toList, hs]; omega), List.getElem?_eq_none (by rw [hl]; omega)]
theorem take_putFlat (cur F : Array Value) (h : F.size ≤ cur.size) : (putCells (id : Value → Value) 0 F cur).toList.take F.size = F.toList := by
 apply List.ext_getElem?
 intro j
 by_cases hj : j < F.size
 · rw [List.getElem?_take_of_lt hj, Array.getElem?_toList, Array.getElem?_toList]
   simp [putCells, hj, show j < cur.size by omega]
 · rw [List.getElem?_take_eq_none (by omega), List.getElem?_eq_none (by simp; omega)]
theorem perm_of_in {α : Type} [Inhabited α] {d d' : Array α} (h : PermIn 0 d.size d d') : d'.toList.Perm d.toList := by
 obtain ⟨h1, _, h3⟩ := h
 have e1 : d.extract 0 d.size = d := by simp
 have e2 : d'.extract 0 d.size = d' := by rw [← h1]; simp
 rwa [e1, e2] at h3
theorem sorted_pair {α : Type} [Inhabited α] {lt : α → α → Bool} {d d' : Array α} (hs : d'.size = d.size) (h : SortedIn lt 0 d.size d') : d'.toList.Pairwise fun x y => lt y x = false := by
 rw [List.pairwise_iff_getElem]
 intro i j hi hj hij
 rw [Array.length_toList] at hi hj
 have := h i j (Nat.zero_le _) hij (by omega)
 rw [getElem!_pos d' i hi, getElem!_pos d' j hj] at this
 exact this
theorem sort_row {α : Type} [Inhabited α] {P : Program} {ρ : Ren} (L : SlLaysF0.n6 P ρ) (k : Nat) (h0 : 0 < k) (aE : ∀ w, (isAgg (ρ.t 24)).run P w = .ok true w) (zE : ∀ w, (Go.sizeOf (ρ.t 24)).run P w = .ok k w) (enc : α → List Value) (hk : ∀ x, (enc x).length = k) (h1 : ∀ x, ∀ v ∈ enc x, v.oneCell' = true) (cf : α → α → Int) (hO : SWO (ltOf cf)) (g : Nat) (cb : Array Value) (T : TypeId) {c : Nat} {A : Option Addr} (xs : List α) (w : World)
 (eg : ∀ args w, (callFunc g args).run P w = .ok (.enter g args) w) (hcmp : ∀ blk off size w', CmpLays P g cb enc k cf blk off size w') (ho : w.ownsRow 0 T k (.slice A xs.length c) xs.length (xs.flatMap enc)) (hsz : xs.length < 4611686018427387904) :
 Calls P (ρ.f 6) #[.slice A xs.length c, .func (.func g) #[] cb] w fun e w' => ∃ ys : List α, e = .returned (.tuple #[]) ∧ (ys.Perm xs ∧ ys.Pairwise (fun x y => ltOf cf y x = false)) ∧ w'.ownsRow 0 T k (.slice A xs.length c) xs.length (ys.flatMap enc) ∧ w.grownBy w' (Value.slice A xs.length c).ownBlock := by
 obtain ⟨ho1, ho2⟩ := ho
 rcases ho2 with ⟨hv, hn⟩ | ⟨b, cap, cur, hv, hb0, hb, hn, hcap, hcs, htk⟩
 · rw [hn]
   refine (AnyF.slices_SortFunc_none L A c _ w).mono ?_
   rintro e w' ⟨rfl, rfl⟩
   have hx : xs = [] := List.eq_nil_of_length_eq_zero hn
   subst hx
   exact ⟨[], rfl, ⟨List.Perm.refl _, .nil⟩, by
    injection hv with q1 q2 q3
    subst q1 q3
    exact World.ownsRow_nil _ _ _ _, ⟨rfl, rfl, rfl, Nat.le_refl _, fun _ _ _ => rfl⟩⟩
 · injection hv with q1 q2 q3
   subst q1 q3
   have hbl : b < w.heap.size := (Array.getElem?_eq_some_iff.1 hb).1
   have hF := flatK_list hk h0 xs.toArray
   have hFs : (flatK enc k xs.toArray).size = xs.length * k := by rw [size_flatK]; simp
   have hH : HoldsK enc k w b 0 xs.toArray := by
    intro j hj
    rw [hFs] at hj
    refine ⟨?_, by simp [World.frozen?, hb]⟩
    have h2 : (flatK enc k xs.toArray).toList[j]? = cur.toList[j]? := by
     rw [hF]
     show (xs.flatMap enc)[j]? = _
     rw [← htk, List.getElem?_take_of_lt hj]
    have h3 : cur[j]? = some (flatK enc k xs.toArray)[j]! := by
     rw [← Array.getElem?_toList, ← h2, Array.getElem?_toList, Array.getElem?_eq_getElem (by rw [hFs]; exact hj), getElem!_pos _ j (by rw [hFs]; exact hj)]
    rw [cell_of_row _ _ _ cur T (0, 0) hb]
    simpa using h3
   have hcon := AnyQ.slices_SortFunc L k aE zE enc hk h1 cf hO g cb b 0 c xs.toArray w eg (hcmp _ _ _ _) hH hbl (by simpa using hsz)
   have e0 : xs.toArray.size = xs.length := by simp
   rw [e0] at hcon
   refine hcon.mono ?_
   rintro e w' ⟨rfl, d', n, os, hp, hs, rfl⟩
   have hps : d'.size = xs.length := by have := hp.1; simpa using this
   have hFs' : (flatK enc k d').size = xs.length * k := by rw [size_flatK, hps]
   have hpr := perm_of_in (d := xs.toArray) (d' := d') (by rw [e0]; exact hp)
   have hprl : d'.toList.Perm xs := by simpa using hpr
   have hheap : (sortWorldK enc k w b 0 n d' os).heap[b]? = some (.cells (putCells id 0 (flatK enc k d') cur) T (0, 0)) := by
    show (grow (putRow id (Sort.ahead w n) b 0 (flatK enc k d')) os).heap[b]? = _
    rw [heap_grow_old _ _ (by simpa using hbl)]
    simp [putRow, mapBlock, Sort.ahead, Array.getElem?_modify, hb, onCells]
   refine ⟨d'.toList, rfl, ⟨hprl, sorted_pair (d := xs.toArray) (by rw [e0]; exact hps) (by rw [e0]; exact hs)⟩, ⟨?_, .inr ⟨b, c, _, rfl, hb0, hheap, hn, hcap, by simp [putCells, hcs], ?_⟩⟩, ?_⟩
   · rw [← flatK_list hk h0 d', Array.length_toList, hFs']
   · rw [← flatK_list hk h0 d', ← hFs']
     exact take_putFlat cur _ (by
      rw [hFs', hcs]
      exact Nat.mul_le_mul_right k hn)
   · refine ⟨rfl, rfl, rfl, by show _ ≤ (grow (putRow id (Sort.ahead w n) b 0 (flatK enc k d')) os).heap.size; simp, fun j hj hne => ?_⟩
     show (grow (putRow id (Sort.ahead w n) b 0 (flatK enc k d')) os).heap[j]? = _
     rw [heap_grow_old _ _ (by simpa using hj)]
     have : b ≠ j := fun e => hne (by rw [e]; rfl)
     simp [putRow, mapBlock, Sort.ahead, Array.getElem?_modify, this]
abbrev BdT : Type := { x : Trn // 0 ≤ x.i ∧ x.i ≤ 100000 }
abbrev BdD : Type := { x : Dty // 0 ≤ x.g ∧ x.g ≤ 100000 }
instance : Inhabited BdT := ⟨⟨trn0, by decide⟩⟩
instance : Inhabited BdD := ⟨⟨⟨0, false, 0⟩, by decide⟩⟩
def cfT (x y : BdT) : Int := x.1.i - y.1.i
def cfD (x y : BdD) : Int := x.1.g - y.1.g
theorem swoT : SWO (ltOf cfT) where
 irrefl x := by unfold ltOf cfT; simp
 trans x y z h1 h2 := by unfold ltOf cfT at *; simp at *; omega
 ntrans x y z h1 h2 := by unfold ltOf cfT at *; simp at *; omega
theorem swoD : SWO (ltOf cfD) where
 irrefl x := by unfold ltOf cfD; simp
 trans x y z h1 h2 := by unfold ltOf cfD at *; simp at *; omega
 ntrans x y z h1 h2 := by unfold ltOf cfD at *; simp at *; omega
set_option maxHeartbeats 1000000 in
theorem less1_any (x y : BdT) (W : World) : Calls Tryz.prog 197 #[.agg #[.int .i64 x.1.i, .int .i64 x.1.l, .int .i64 x.1.u, .bool x.1.c], .agg #[.int .i64 y.1.i, .int .i64 y.1.l, .int .i64 y.1.u, .bool y.1.c]] W fun e w' => e = .returned (.int .i64 (cfT x y)) ∧ ∃ q os', w' = grow (W.drewN q) os' := by
 obtain ⟨⟨xi, xl, xu, xc⟩, hx0, hx1⟩ := x
 obtain ⟨⟨yi, yl, yu, yc⟩, hy0, hy1⟩ := y
 unfold cfT
 dsimp only at *
 go_enter Tryz.func197, Tryz.ntmps197
 have x0 : 0 ≤ xi := hx0
 have x1 : xi ≤ 100000 := hx1
 have y0 : 0 ≤ yi := hy0
 have y1 : yi ≤ 100000 := hy1
 clear hx0 hx1 hy0 hy1
 have hw : wrap64 (xi - yi) = xi - yi := by unfold wrap64; omega
 go_wp2
 go_ret
 exact ⟨rfl, 0, _, by rw [alloc_eq_grow, alloc_eq_grow, grow_grow]; rfl⟩
set_option maxHeartbeats 1000000 in
theorem less2_any (x y : BdD) (W : World) : Calls Tryz.prog 199 #[.agg #[.int .i64 x.1.g, .bool x.1.f, .int .i64 x.1.l], .agg #[.int .i64 y.1.g, .bool y.1.f, .int .i64 y.1.l]] W fun e w' => e = .returned (.int .i64 (cfD x y)) ∧ ∃ q os', w' = grow (W.drewN q) os' := by
 obtain ⟨⟨xi, xl, xu⟩, hx0, hx1⟩ := x
 obtain ⟨⟨yi, yl, yu⟩, hy0, hy1⟩ := y
 unfold cfD
 dsimp only at *
 go_enter Tryz.func199, Tryz.ntmps199
 have x0 : 0 ≤ xi := hx0
 have x1 : xi ≤ 100000 := hx1
 have y0 : 0 ≤ yi := hy0
 have y1 : yi ≤ 100000 := hy1
 clear hx0 hx1 hy0 hy1
 have hw : wrap64 (xi - yi) = xi - yi := by unfold wrap64; omega
 go_wp2
 go_ret
 exact ⟨rfl, 0, _, by rw [alloc_eq_grow, alloc_eq_grow, grow_grow]; rfl⟩
theorem run_isAggS {P : Program} {t : TypeId} {fs : Array Field} (h : P.underlying t = some (.struct fs)) (w : World) : (isAgg t).run P w = .ok true w := by simp [isAgg, run_underlying h]
theorem run_sizeOfS {P : Program} {t : TypeId} {n : Nat} (h : (P.info? t).map (·.size) = some n) (w : World) : (Go.sizeOf t).run P w = .ok n w := by
 cases hq : P.info? t with
 | none => rw [hq] at h; cases h
 | some q =>
  rw [hq] at h
  have hz : q.size = n := by simpa using h
  simp [Go.sizeOf, typeInfo, hq, hz]
end Go.Proofs.YtcfdpfmchchkaaaGreatDoor
namespace Go.Proofs.YtcfdpfmchchkaaaGreatDoor
set_option linter.unusedVariables false
set_option linter.unusedSimpArgs false
set_option maxRecDepth 4000
open Go.RowKit Go.Sort Go.Shelf
section
variable {α : Type} {κ : α → Int}
theorem srt_of_le {l : List α} (h : l.Pairwise fun x y => κ x ≤ κ y) (hn : (l.map κ).Nodup) : SrtK κ l := by
 unfold SrtK
 unfold List.Nodup at hn
 rw [List.pairwise_map] at hn
 exact (h.and hn).imp fun ⟨h1, h2⟩ => by omega
end
theorem lift_T : ∀ (xs : List Trn), (∀ x ∈ xs, 0 ≤ x.i ∧ x.i ≤ 100000) → ∃ zs : List BdT, zs.map (fun z => z.1) = xs
 | [], _ => ⟨[], rfl⟩
 | x :: xs, h => by
  obtain ⟨zs, hz⟩ := lift_T xs (fun y hy => h y (List.mem_cons_of_mem _ hy))
  exact ⟨⟨x, h x (List.mem_cons_self)⟩ :: zs, by rw [List.map_cons, hz]⟩
theorem lift_D : ∀ (xs : List Dty), (∀ x ∈ xs, 0 ≤ x.g ∧ x.g ≤ 100000) → ∃ zs : List BdD, zs.map (fun z => z.1) = xs
 | [], _ => ⟨[], rfl⟩
 | x :: xs, h => by
  obtain ⟨zs, hz⟩ := lift_D xs (fun y hy => h y (List.mem_cons_of_mem _ hy))
  exact ⟨⟨x, h x (List.mem_cons_self)⟩ :: zs, by rw [List.map_cons, hz]⟩
theorem sortT_any (s xs : List Trn) (hs : SrtK Trn.i s) (hm : ∀ x, x ∈ xs ↔ x ∈ s) (hnd : (xs.map Trn.i).Nodup) (hb : ∀ x ∈ xs, 0 ≤ x.i ∧ x.i ≤ 100000) (A : Option Addr) (c : Nat) (w : World) (ho : w.ownsRow 0 116 4 (.slice A xs.length c) xs.length (xs.flatMap trsL)) (hl : xs.length ≤ 1000000) :
 Calls Tryz.prog 196 #[.slice A xs.length c, .func (.func 197) #[] #[]] w fun e w' => ∃ p : Unit, e = .returned (.tuple #[]) ∧ xs.length = s.length ∧ St (Value.slice A xs.length c).ownBlock.toList w w' [.row (.slice A xs.length c) xs.length 116 4 (s.flatMap trsL)] := by
 obtain ⟨zs, hz⟩ := lift_T xs hb
 have hzl : zs.length = xs.length := by rw [← hz, List.length_map]
 have hzf : zs.flatMap (fun z => trsL z.1) = xs.flatMap trsL := by rw [← hz, List.flatMap_map]
 have hcon := sort_row Tryz.laySort196 4 (by decide) (run_isAggS Tryz.underlying116) (run_sizeOfS (by kernel_rfl)) (fun z : BdT => trsL z.1) (fun z => trsL_len _) (fun z v hv => trsL_one _ v hv) cfT swoT 197 #[] 116 (A := A) (c := c) zs w
  (enters_of Tryz.func197 (by kernel_rfl) rfl) (fun _ _ _ _ _ _ _ _ x y => less1_any x y _) (by rw [hzl, hzf]; exact ho) (by omega)
 rw [hzl] at hcon
 change Calls Tryz.prog 196 _ _ _ at hcon
 refine hcon.mono ?_
 rintro e w' ⟨ys, rfl, ⟨hp, hpw⟩, hw1, hw2⟩
 have hpv : (ys.map fun z => z.1).Perm xs := by rw [← hz]; exact hp.map _
 have hsrt : SrtK Trn.i (ys.map fun z => z.1) := srt_of_le (List.pairwise_map.2 (hpw.imp fun {x y} h => by unfold ltOf cfT at h; simp at h; omega)) (((hpv.map Trn.i).nodup_iff).2 hnd)
 have heq : (ys.map fun z => z.1) = s := srt_of_mem hsrt hs fun x => (hpv.mem_iff).trans (hm x)
 have hfl : ys.flatMap (fun z => trsL z.1) = s.flatMap trsL := by rw [← heq, List.flatMap_map]
 rw [hfl] at hw1
 exact ⟨(), rfl, by rw [← heq]; exact hpv.length_eq.symm, (St.initO ho).sub (List.Sublist.refl _) |>.grown (i := 0) rfl hw1 hw2 (.inl rfl)⟩
theorem sortD_any (s xs : List Dty) (hs : SrtK Dty.g s) (hm : ∀ x, x ∈ xs ↔ x ∈ s) (hnd : (xs.map Dty.g).Nodup) (hb : ∀ x ∈ xs, 0 ≤ x.g ∧ x.g ≤ 100000) (A : Option Addr) (c : Nat) (w : World) (ho : w.ownsRow 0 124 3 (.slice A xs.length c) xs.length (xs.flatMap dtyL)) (hl : xs.length ≤ 1000000) :
 Calls Tryz.prog 198 #[.slice A xs.length c, .func (.func 199) #[] #[]] w fun e w' => ∃ p : Unit, e = .returned (.tuple #[]) ∧ xs.length = s.length ∧ St (Value.slice A xs.length c).ownBlock.toList w w' [.row (.slice A xs.length c) xs.length 124 3 (s.flatMap dtyL)] := by
 obtain ⟨zs, hz⟩ := lift_D xs hb
 have hzl : zs.length = xs.length := by rw [← hz, List.length_map]
 have hzf : zs.flatMap (fun z => dtyL z.1) = xs.flatMap dtyL := by rw [← hz, List.flatMap_map]
 have hcon := sort_row Tryz.laySort198 3 (by decide) (run_isAggS Tryz.underlying124) (run_sizeOfS (by kernel_rfl)) (fun z : BdD => dtyL z.1) (fun z => dtyL_len _) (fun z v hv => dtyL_one _ v hv) cfD swoD 199 #[] 124 (A := A) (c := c) zs w
  (enters_of Tryz.func199 (by kernel_rfl) rfl) (fun _ _ _ _ _ _ _ _ x y => less2_any x y _) (by rw [hzl, hzf]; exact ho) (by omega)
 rw [hzl] at hcon
 change Calls Tryz.prog 198 _ _ _ at hcon
 refine hcon.mono ?_
 rintro e w' ⟨ys, rfl, ⟨hp, hpw⟩, hw1, hw2⟩
 have hpv : (ys.map fun z => z.1).Perm xs := by rw [← hz]; exact hp.map _
 have hsrt : SrtK Dty.g (ys.map fun z => z.1) := srt_of_le (List.pairwise_map.2 (hpw.imp fun {x y} h => by unfold ltOf cfD at h; simp at h; omega)) (((hpv.map Dty.g).nodup_iff).2 hnd)
 have heq : (ys.map fun z => z.1) = s := srt_of_mem hsrt hs fun x => (hpv.mem_iff).trans (hm x)
 have hfl : ys.flatMap (fun z => dtyL z.1) = s.flatMap dtyL := by rw [← heq, List.flatMap_map]
 rw [hfl] at hw1
 exact ⟨(), rfl, by rw [← heq]; exact hpv.length_eq.symm, (St.initO ho).sub (List.Sublist.refl _) |>.grown (i := 0) rfl hw1 hw2 (.inl rfl)⟩
def keyI (e : MapEntry) : Int := match e.key with | .int _ k => k | _ => 0
def tvG {α : Type} (z : α) (g : Int → Option α) (e : MapEntry) : α := (g (keyI e)).getD z
section
variable {α : Type} {κ : α → Int} {V : α → Value} {z : α} {l : List α} {es : Array MapEntry} {ck : Nat}
theorem mf_mem (h : MapFn es ck (fun i => (fndK κ l i).map V)) {e : MapEntry} (he : e ∈ es.toList) : fndK κ l (keyI e) = some (tvG z (fndK κ l) e) ∧ e.val = V (tvG z (fndK κ l) e) ∧ e.key = .int .i64 (keyI e) := by
 obtain ⟨k, h1, h2⟩ := h.key e he
 have hk : keyI e = k := by unfold keyI; rw [h1]
 unfold tvG
 rw [hk]
 cases hq : fndK κ l k with
 | none => rw [hq] at h2; cases h2
 | some y =>
  rw [hq] at h2
  exact ⟨rfl, by injection h2 with h2; exact h2.symm, h1⟩
theorem mf_key (h : MapFn es ck (fun i => (fndK κ l i).map V)) {e : MapEntry} (he : e ∈ es.toList) : κ (tvG z (fndK κ l) e) = keyI e := (fndK_some (mf_mem (z := z) h he).1).2
theorem mf_nodup (h : MapFn es ck (fun i => (fndK κ l i).map V)) {seen : Array Nat} {out : List MapEntry} (hh : Handed es ck seen out) : ((out.map (tvG z (fndK κ l))).map κ).Nodup := by
 have hn := h.st.2.2
 have hinj : ∀ e ∈ es.toList, ∀ f ∈ es.toList, keyI e = keyI f → e = f := fun e he f hf hk => by
  obtain ⟨i, hi, rfl⟩ := List.getElem_of_mem he
  obtain ⟨j, hj, rfl⟩ := List.getElem_of_mem hf
  have e1 := (mf_mem (z := z) h (List.getElem_mem hi)).2.2
  have e2 := (mf_mem (z := z) h (List.getElem_mem hj)).2.2
  have : (es.toList.map (·.key))[i]'(by simpa using hi) = (es.toList.map (·.key))[j]'(by simpa using hj) := by
   rw [List.getElem_map, List.getElem_map, e1, e2, hk]
  have := (List.getElem_inj hn).1 this
  subst this; rfl
 have h1 := hh.nd
 unfold List.Nodup at h1 ⊢
 rw [List.pairwise_map] at h1
 rw [List.pairwise_map, List.pairwise_map]
 refine h1.imp_of_mem fun {e f} he hf hne heq => hne ?_
 rw [mf_key h (hh.sub e he), mf_key h (hh.sub f hf)] at heq
 rw [hinj e (hh.sub e he) f (hh.sub f hf) heq]
theorem mf_sub (h : MapFn es ck (fun i => (fndK κ l i).map V)) {seen : Array Nat} {out : List MapEntry} (hh : Handed es ck seen out) : ∀ x ∈ out.map (tvG z (fndK κ l)), x ∈ l := fun x hx => by
 obtain ⟨e, he, rfl⟩ := List.mem_map.1 hx
 exact (fndK_some (mf_mem h (hh.sub e he)).1).1
theorem mf_all (h : MapFn es ck (fun i => (fndK κ l i).map V)) (hs : SrtK κ l) {seen : Array Nat} {out : List MapEntry} (hh : Handed es ck seen out) (ha : ∀ e ∈ es.toList, e ∈ out) : ∀ x, x ∈ out.map (tvG z (fndK κ l)) ↔ x ∈ l := fun x => ⟨mf_sub h hh x, fun hx => by
 obtain ⟨e, he, h1, h2⟩ := h.all (κ x) (V x) (by rw [fndK_mem hs hx]; rfl)
 have hk : keyI e = κ x := by unfold keyI; rw [h1]
 refine List.mem_map.2 ⟨e, ha e he, ?_⟩
 unfold tvG
 rw [hk, fndK_mem hs hx]; rfl⟩
theorem mf_len (z : α) (h : MapFn es ck (fun i => (fndK κ l i).map V)) {seen : Array Nat} {out : List MapEntry} (hh : Handed es ck seen out) : out.length ≤ l.length := by
 have h1 := mf_nodup (z := z) h hh
 have h2 := sub_len (out.map (tvG z (fndK κ l))) l (by
  unfold List.Nodup at h1 ⊢
  rw [List.pairwise_map] at h1
  exact h1.imp fun h e => h (by rw [e])) (mf_sub (z := z) h hh)
 rwa [List.length_map] at h2
end
end Go.Proofs.YtcfdpfmchchkaaaGreatDoor
namespace Go.Proofs.YtcfdpfmchchkaaaGreatDoor
set_option linter.unusedVariables false
set_option linter.unusedSimpArgs false
set_option maxRecDepth 4000
open Go.RowKit Go.Sort Go.Shelf
theorem mapAt {w X : World} {m : Nat} {o : Obj} (hb : Below w.heap.size w X) (h : w.heap[m]? = some o) : X.heap[m]? = some o := (hb.block m (Array.getElem?_eq_some_iff.1 h).1).trans h
structure BdTbl (t : Tbl) : Prop where
 ts : ∀ x ∈ t.ts, 0 ≤ x.i ∧ x.i ≤ 100000
 ds : ∀ x ∈ t.ds, 0 ≤ x.g ∧ x.g ≤ 100000
 lt : t.ts.length ≤ 100000
 ld : t.ds.length ≤ 100000
theorem list_any (t : Tbl) (bt m1 m2 : Nat) (w : World) (hB : Box w bt #[.map (some m1), .map (some m2)] 228) (hm1 : MapF w m1 (trF (fndT t.ts))) (hm2 : MapF w m2 (dtF (fndD t.ds))) (hs : SrtT t) (hd : BdTbl t) :
 Calls Tryz.prog 131 #[.pointer (some ⟨bt, 0, none⟩)] w fun e w' => ∃ i : Option Addr × Nat × Option Addr × Nat, e = .returned (tblV t i.1 i.2.1 i.2.2.1 i.2.2.2) ∧
  St [] w w' [.row (.slice i.1 t.ts.length i.2.1) t.ts.length 116 4 (t.ts.flatMap trsL), .row (.slice i.2.2.1 t.ds.length i.2.2.2) t.ds.length 124 3 (t.ds.flatMap dtyL)] := by
 obtain ⟨es1, ck1, he1, hf1⟩ := hm1
 obtain ⟨es2, ck2, he2, hf2⟩ := hm2
 obtain ⟨tv, htv⟩ : ∃ tv : MapEntry → Trn, tv = tvG trn0 (fndT t.ts) := ⟨_, rfl⟩
 obtain ⟨dv, hdv⟩ : ∃ dv : MapEntry → Dty, dv = tvG ⟨0, false, 0⟩ (fndD t.ds) := ⟨_, rfl⟩
 refine st_enter (N := 45) Tryz.func131 rfl rfl rfl (fun a0 h0 => ?_)
 have S0 := St.init w
 refine st_seq (st_reg ?_)
 refine na (.agg #[.slice none 0 0, .slice none 0 0]) h0 rfl S0 fun b2 a1 X1 gb2 h1 S1 => ?_
 refine nsr ?_
 refine na (.agg #[.slice none 0 0, .slice none 0 0]) h1 rfl S1 fun b3 a2 X2 gb3 h2 S2 => ?_
 refine st_nil (go_then (st_seq (st_seq (st_reg ?_))))
 refine mv h2 rfl rfl fun a3 h3 => ?_
 refine sv h3 (ex_nilck (h3.ev rfl)) fun a4 h4 => ?_
 refine sv h4 (ex_field (off := 0) (by kernel_rfl) (h4.ev rfl) rfl) fun a5 h5 => ?_
 refine sv h5 (ex_load (by kernel_rfl) (h5.ev rfl) ((hB.below S2.below).cells 0)) fun a6 h6 => ?_
 refine sl_rangeM (m := m1) (es := es1) (clock := ck1) h6 (wn rfl) rfl rfl rfl Tryz.underlying225 (h6.ev rfl) S2 (mapAt S2.below he1) fun it1 a7 X7 g12 h7 S7 => ?_
 replace S7 := St.nilRow S7 116 4
 refine st_nil (go_then (wp_block ?_))
 refine st_loop h7 S7 [12, 3, 2, 0] (fun (q : List MapEntry × Array Nat × Option Addr × Nat) => []) (fun (q : List MapEntry × Array Nat × Option Addr × Nat) => Handed es1 ck1 q.2.1 q.1) (fun q _ => [.row (.slice q.2.2.1 q.1.length q.2.2.2) q.1.length 116 4 ((q.1.map tv).flatMap trsL), iterE it1 m1 ck1 q.2.1 ck1, .box b3 #[.slice q.2.2.1 q.1.length q.2.2.2, .slice none 0 0] 25, .box b2 #[.slice none 0 0, .slice none 0 0] 25]) (fun (q : List MapEntry × Array Nat × Option Addr × Nat) => t.ts.length - q.1.length) (([], #[], none, 0)) (Handed.nil es1 ck1) ⟨rfl, rfl, rfl, rfl, trivial⟩ (S7) ?_
 intro q a8 X8 hF0 h8 S8
 refine st_seq (st_reg ?_)
 refine sl_nextM (out := q.1) h8 (wn rfl) rfl rfl rfl (h8.ev rfl) S8 (i := 1) rfl (mapAt S8.below he1) hf1.st ⟨rfl, Nat.le_refl _⟩ hF0 fun p13 a9 X9 h9 hn13 hs13 S9 hm13 => ?_
 refine sv h9 (ex_nxt (h9.ev rfl)) fun a10 h10 => ?_
 refine st_nil (go_then (st_seq ?_))
 refine st_if (h10.ev rfl) (fun hc0 => ?_) (fun hc0 => ?_)
 ·
  obtain ⟨e1, rfl⟩ := Option.isSome_iff_exists.1 hc0
  obtain ⟨hmm1, hh1⟩ := hs13 e1 rfl
  have hlen1 := mf_len (κ := Trn.i) (V := trnV) trn0 hf1 hh1
  rw [List.length_append, List.length_singleton] at hlen1
  have hl1 : (q.1 ++ [e1]).length = q.1.length + 1 := by rw [List.length_append]; rfl
  have hlt := hd.lt
  have hld := hd.ld
  refine wp_skip (go_then (wp_block (st_seq (st_reg ?_))))
  refine sv h10 (ex_entryM (h10.ev rfl) (S9.at_ (i := 1) rfl) (mapAt S9.below he1) hmm1 hf1.st) fun a11 h11 => ?_
  refine sv h11 (as_val (v' := trnV (tv e1)) (by rw [htv]; exact (mf_mem (κ := Trn.i) (V := trnV) (z := trn0) hf1 hmm1).2.1) (ex_extract (h11.ev rfl) rfl)) fun a12 h12 => ?_
  refine na (.agg #[.int .i64 0, .int .i64 0, .int .i64 0, .bool false]) h12 rfl S9 fun b5 a13 X13 gb5 h13 S13 => ?_
  refine sl_store0 h13 (wn rfl) ⟨rfl, rfl⟩ (h13.ev rfl) (h13.ev rfl) rfl (by kernel_rfl) S13 (i := 0) rfl rfl rfl fun X14 S14 => ?_
  refine st_nil (go_then (st_reg ?_))
  refine vf h13 0 0 rfl rfl rfl fun a15 h15 => ?_
  refine vl h15 S14 3 rfl rfl rfl rfl fun a16 h16 => ?_
  refine sv (v := trnV (tv e1)) h16 (ex_loads (by kernel_rfl) (by kernel_rfl) (h16.ev rfl) (S14.cellsAll (i := 0) rfl)) fun a17 h17 => ?_
  refine sl_bslice (zc := [.int .i64 0, .int .i64 0, .int .i64 0, .bool false]) (sz := 4) h17 (wn rfl) ⟨rfl, rfl⟩ rfl Tryz.underlying22 (by kernel_rfl) (by kernel_rfl) rfl rfl rfl (h17.evs2 rfl) rfl rfl rfl S14 fun b20 a18 X18 gb20 h18 S18 => ?_
  refine sl_append (z := .agg #[.int .i64 0, .int .i64 0, .int .i64 0, .bool false]) (sz := 4) (bytes := 32) h18 (wn rfl) ⟨rfl, rfl⟩ rfl Tryz.underlying22 (by kernel_rfl) rfl rfl (h18.ev rfl) (h18.ev rfl) S18 (i := 2) rfl (S18.boxRd (i := 0) rfl) rfl (List.all_eq_true.1 rfl) ⟨(by omega), by decide⟩ fun A21 c21 a19 X19 h19 S19 => ?_
  refine vf h19 0 0 rfl rfl rfl fun a20 h20 => ?_
  refine sl_store h20 (wn rfl) ⟨rfl, rfl⟩ (h20.ev rfl) (h20.ev rfl) rfl (by kernel_rfl) S19 (i := 4) rfl rfl rfl fun X21 S21 => ?_
  refine st_nil (go_block (go_then ?_))
  exact ⟨(q.1 ++ [e1], q.2.1.push e1.born, A21, c21), (by show t.ts.length - (q.1 ++ [e1]).length < _; omega), hh1, h20.re ⟨rfl, rfl, rfl, rfl, trivial⟩, (by show St [] w _ [.row (.slice _ (q.1 ++ [e1]).length _) (q.1 ++ [e1]).length _ _ (((q.1 ++ [e1]).map tv).flatMap trsL), _, .box b3 #[.slice _ (q.1 ++ [e1]).length _, _] _, _]; rw [List.length_append, List.map_append, List.flatMap_append]; exact (S21.sub (.cons _ (.cons _ (.cons_cons _ (.cons_cons _ (.cons_cons _ (.cons_cons _ .slnil))))))))⟩
 ·
  obtain rfl : p13 = none := by cases p13 with | none => rfl | some e => cases hc0
  have hall1 := hn13 rfl
  obtain ⟨out1, seen1, A1, c1⟩ := q
  obtain ⟨xs, hxs⟩ : ∃ xs, xs = out1.map tv := ⟨_, rfl⟩
  have hxl : out1.length = xs.length := by rw [hxs, List.length_map]
  have hxm : ∀ x, x ∈ xs ↔ x ∈ t.ts := by rw [hxs, htv]; exact mf_all (κ := Trn.i) (V := trnV) hf1 hs.ts hF0 hall1
  have hxn : (xs.map Trn.i).Nodup := by rw [hxs, htv]; exact mf_nodup (κ := Trn.i) (V := trnV) hf1 hF0
  have hxc : xs.length ≤ t.ts.length := by rw [← hxl]; exact mf_len (κ := Trn.i) (V := trnV) trn0 hf1 hF0
  have hxb : ∀ x ∈ xs, 0 ≤ x.i ∧ x.i ≤ 100000 := fun x hx => hd.ts x ((hxm x).1 hx)
  have hlt := hd.lt
  have hld := hd.ld
  replace S9 : St [] w X9 [.row (.slice A1 xs.length c1) xs.length 116 4 (xs.flatMap trsL), iterE it1 m1 ck1 seen1 ck1, .box b3 #[.slice A1 xs.length c1, .slice none 0 0] 25, .box b2 #[.slice none 0 0, .slice none 0 0] 25] := by rw [← hxl, hxs]; exact S9
  refine wp_exit ?_
  refine go_exit_then ?_
  refine go_exit_then ?_
  refine go_exit ?_
  refine go_then (st_seq (st_seq (st_reg ?_)))
  refine mv h10 rfl rfl fun a22 h22 => ?_
  refine sv h22 (ex_nilck (h22.ev rfl)) fun a23 h23 => ?_
  refine sv h23 (ex_field (off := 1) (by kernel_rfl) (h23.ev rfl) rfl) fun a24 h24 => ?_
  refine sv h24 (ex_load (by kernel_rfl) (h24.ev rfl) ((hB.below S9.below).cells 1)) fun a25 h25 => ?_
  refine sl_rangeM (m := m2) (es := es2) (clock := ck2) h25 (wn rfl) rfl rfl rfl Tryz.underlying226 (h25.ev rfl) S9 (mapAt S9.below he2) fun it2 a26 X26 g27 h26 S26 => ?_
  replace S26 := St.nilRow S26 124 3
  refine st_nil (go_then (wp_block ?_))
  refine st_loop h26 S26 [27, 3, 2] (fun (q : List MapEntry × Array Nat × Option Addr × Nat) => []) (fun (q : List MapEntry × Array Nat × Option Addr × Nat) => Handed es2 ck2 q.2.1 q.1) (fun q _ => [.row (.slice q.2.2.1 q.1.length q.2.2.2) q.1.length 124 3 ((q.1.map dv).flatMap dtyL), iterE it2 m2 ck2 q.2.1 ck2, .row (.slice A1 xs.length c1) xs.length 116 4 (xs.flatMap trsL), iterE it1 m1 ck1 seen1 ck1, .box b3 #[.slice A1 xs.length c1, .slice q.2.2.1 q.1.length q.2.2.2] 25, .box b2 #[.slice none 0 0, .slice none 0 0] 25]) (fun (q : List MapEntry × Array Nat × Option Addr × Nat) => t.ds.length - q.1.length) (([], #[], none, 0)) (Handed.nil es2 ck2) ⟨rfl, rfl, rfl, trivial⟩ (S26) ?_
  intro q a27 X27 hF1 h27 S27
  refine st_seq (st_reg ?_)
  refine sl_nextM (out := q.1) h27 (wn rfl) rfl rfl rfl (h27.ev rfl) S27 (i := 1) rfl (mapAt S27.below he2) hf2.st ⟨rfl, Nat.le_refl _⟩ hF1 fun p28 a28 X28 h28 hn28 hs28 S28 hm28 => ?_
  refine sv h28 (ex_nxt (h28.ev rfl)) fun a29 h29 => ?_
  refine st_nil (go_then (st_seq ?_))
  refine st_if (h29.ev rfl) (fun hc1 => ?_) (fun hc1 => ?_)
  ·
   obtain ⟨e2, rfl⟩ := Option.isSome_iff_exists.1 hc1
   obtain ⟨hmm2, hh2⟩ := hs28 e2 rfl
   have hlen2 := mf_len (κ := Dty.g) (V := dtyV) ⟨0, false, 0⟩ hf2 hh2
   rw [List.length_append, List.length_singleton] at hlen2
   have hl2 : (q.1 ++ [e2]).length = q.1.length + 1 := by rw [List.length_append]; rfl
   refine wp_skip (go_then (wp_block (st_seq (st_reg ?_))))
   refine sv h29 (ex_entryM (h29.ev rfl) (S28.at_ (i := 1) rfl) (mapAt S28.below he2) hmm2 hf2.st) fun a30 h30 => ?_
   refine sv h30 (as_val (v' := dtyV (dv e2)) (by rw [hdv]; exact (mf_mem (κ := Dty.g) (V := dtyV) (z := ⟨0, false, 0⟩) hf2 hmm2).2.1) (ex_extract (h30.ev rfl) rfl)) fun a31 h31 => ?_
   refine na (.agg #[.int .i64 0, .bool false, .int .i64 0]) h31 rfl S28 fun b7 a32 X32 gb7 h32 S32 => ?_
   refine sl_store0 h32 (wn rfl) ⟨rfl, rfl⟩ (h32.ev rfl) (h32.ev rfl) rfl (by kernel_rfl) S32 (i := 0) rfl rfl rfl fun X33 S33 => ?_
   refine st_nil (go_then (st_reg ?_))
   refine vf h32 1 1 rfl rfl rfl fun a34 h34 => ?_
   refine vl h34 S33 5 rfl rfl rfl rfl fun a35 h35 => ?_
   refine sv (v := dtyV (dv e2)) h35 (ex_loads (by kernel_rfl) (by kernel_rfl) (h35.ev rfl) (S33.cellsAll (i := 0) rfl)) fun a36 h36 => ?_
   refine sl_bslice (zc := [.int .i64 0, .bool false, .int .i64 0]) (sz := 3) h36 (wn rfl) ⟨rfl, rfl⟩ rfl Tryz.underlying23 (by kernel_rfl) (by kernel_rfl) rfl rfl rfl (h36.evs2 rfl) rfl rfl rfl S33 fun b35 a37 X37 gb35 h37 S37 => ?_
   refine sl_append (z := .agg #[.int .i64 0, .bool false, .int .i64 0]) (sz := 3) (bytes := 24) h37 (wn rfl) ⟨rfl, rfl⟩ rfl Tryz.underlying23 (by kernel_rfl) rfl rfl (h37.ev rfl) (h37.ev rfl) S37 (i := 2) rfl (S37.boxRd (i := 0) rfl) rfl (List.all_eq_true.1 rfl) ⟨(by omega), by decide⟩ fun A36 c36 a38 X38 h38 S38 => ?_
   refine vf h38 1 1 rfl rfl rfl fun a39 h39 => ?_
   refine sl_store h39 (wn rfl) ⟨rfl, rfl⟩ (h39.ev rfl) (h39.ev rfl) rfl (by kernel_rfl) S38 (i := 6) rfl rfl rfl fun X40 S40 => ?_
   refine st_nil (go_block (go_then ?_))
   exact ⟨(q.1 ++ [e2], q.2.1.push e2.born, A36, c36), (by show t.ds.length - (q.1 ++ [e2]).length < _; omega), hh2, h39.re ⟨rfl, rfl, rfl, trivial⟩, (by show St [] w _ [.row (.slice _ (q.1 ++ [e2]).length _) (q.1 ++ [e2]).length _ _ (((q.1 ++ [e2]).map dv).flatMap dtyL), _, _, _, .box b3 #[_, .slice _ (q.1 ++ [e2]).length _] _, _]; rw [List.length_append, List.map_append, List.flatMap_append]; exact (S40.sub (.cons _ (.cons _ (.cons_cons _ (.cons_cons _ (.cons_cons _ (.cons_cons _ (.cons_cons _ (.cons_cons _ .slnil))))))))))⟩
  ·
   obtain rfl : p28 = none := by cases p28 with | none => rfl | some e => cases hc1
   have hall2 := hn28 rfl
   obtain ⟨out2, seen2, A2, c2⟩ := q
   obtain ⟨ys, hys⟩ : ∃ ys, ys = out2.map dv := ⟨_, rfl⟩
   have hyl : out2.length = ys.length := by rw [hys, List.length_map]
   have hym : ∀ x, x ∈ ys ↔ x ∈ t.ds := by rw [hys, hdv]; exact mf_all (κ := Dty.g) (V := dtyV) hf2 hs.ds hF1 hall2
   have hyn : (ys.map Dty.g).Nodup := by rw [hys, hdv]; exact mf_nodup (κ := Dty.g) (V := dtyV) hf2 hF1
   have hyc : ys.length ≤ t.ds.length := by rw [← hyl]; exact mf_len (κ := Dty.g) (V := dtyV) ⟨0, false, 0⟩ hf2 hF1
   have hyb : ∀ x ∈ ys, 0 ≤ x.g ∧ x.g ≤ 100000 := fun x hx => hd.ds x ((hym x).1 hx)
   replace S28 : St [] w X28 [.row (.slice A2 ys.length c2) ys.length 124 3 (ys.flatMap dtyL), iterE it2 m2 ck2 seen2 ck2, .row (.slice A1 xs.length c1) xs.length 116 4 (xs.flatMap trsL), iterE it1 m1 ck1 seen1 ck1, .box b3 #[.slice A1 xs.length c1, .slice A2 ys.length c2] 25, .box b2 #[.slice none 0 0, .slice none 0 0] 25] := by rw [← hyl, hys]; exact S28
   refine wp_exit ?_
   refine go_exit_then ?_
   refine go_exit_then ?_
   refine go_exit ?_
   refine go_then (st_seq (st_reg ?_))
   refine vf h29 0 0 rfl rfl rfl fun a41 h41 => ?_
   refine vl h41 S28 4 rfl rfl rfl rfl fun a42 h42 => ?_
   refine sl_updx h42 (wn rfl) (ex_call (fun _ _ => by kernel_rfl) (h42.evs rfl) rfl) rfl rfl S28 (i := 2) rfl row_dom (sortT_any t.ts xs hs.ts hxm hxn hxb A1 c1 _ (S28.at_ (i := 2) rfl) (by omega)) fun p40 a43 X43 h43 hF40 S43 => ?_
   refine nsr ?_
   refine vf h43 1 1 rfl rfl rfl fun a44 h44 => ?_
   refine vl h44 S43 4 rfl rfl rfl rfl fun a45 h45 => ?_
   refine sl_updx h45 (wn rfl) (ex_call (fun _ _ => by kernel_rfl) (h45.evs rfl) rfl) rfl rfl S43 (i := 0) rfl row_dom (sortD_any t.ds ys hs.ds hym hyn hyb A2 c2 _ (S43.at_ (i := 0) rfl) (by omega)) fun p43 a46 X46 h46 hF43 S46 => ?_
   refine nsr ?_
   refine sv h46 (ex_loads (by kernel_rfl) (by kernel_rfl) (h46.ev rfl) (S46.cellsAll (i := 4) rfl)) fun a47 h47 => ?_
   refine sl_store0 h47 (wn rfl) ⟨rfl, rfl⟩ (h47.ev rfl) (h47.ev rfl) rfl (by kernel_rfl) S46 (i := 5) rfl rfl rfl fun X48 S48 => ?_
   refine st_nil (go_then (wp_ret ?_))
   refine finc h47 rfl rfl S48 (i := 5) rfl (by kernel_rfl) (by kernel_rfl) ?_
   refine ⟨(A1, c1, A2, c2), ?_, ?_⟩
   · rw [hF40, hF43]; rfl
   · have q9 := St.swap (S48.sub (.cons_cons _ (.cons _ (.cons_cons _ (.cons _ (.cons _ (.cons _ .slnil)))))))
     rw [hF40, hF43] at q9
     exact q9
end Go.Proofs.YtcfdpfmchchkaaaGreatDoor
namespace Go.Proofs.YtcfdpfmchchkaaaGreatDoor
set_option linter.unusedVariables false
set_option linter.unusedSimpArgs false
set_option maxRecDepth 4000
open Go.RowKit Go.Sort Go.Shelf
theorem tableOfE_any (t : Tbl) (A : Option Addr) (c : Nat) (B : Option Addr) (d : Nat) (w : World) (hr : Rd w w.heap.size A (t.ts.flatMap trsL)) (hq : Rd w w.heap.size B (t.ds.flatMap dtyL)) (hs : SrtT t) (hl : t.ts.length ≤ 1000 ∧ t.ds.length ≤ 1000) :
 Calls Tryz.prog 128 #[tblV t A c B d] w fun e w' => ∃ i : Nat × Nat × Nat, e = .returned (.pointer (some ⟨i.1, 0, none⟩)) ∧ St [] w w' [tabE i.1 i.2.1 i.2.2 t] :=
 (tableOf_any t A c B d w hr hq hs hl).mono fun e w' ⟨i, h1, h2⟩ => ⟨i, h1, tab_join h2⟩
theorem addE_any (t : Tbl) (r : Rcd) (bt m1 m2 : Nat) (w : World) (h : (tabE bt m1 m2 t).ok w) :
 Calls Tryz.prog 130 #[.pointer (some ⟨bt, 0, none⟩), .int .i64 r.l, entV r.e] w fun e w' => ∃ p : Unit, e = .returned (.tuple #[]) ∧ True ∧ St [bt, m1, m2] w w' [tabE bt m1 m2 (chgT t r)] := by
 obtain ⟨hB, hm1, hm2, hne⟩ := h
 refine (add_any t r bt m1 m2 w hB hm1 hm2 hne).mono ?_
 rintro e w' ⟨rfl, hS⟩
 have hmm : NoCells w [m1, m2] := fun b hb => by
  rcases List.mem_cons.1 hb with rfl | hb
  · exact hm1.noCells
  · rw [List.mem_singleton.1 hb]; exact hm2.noCells
 have k1 := hS.at_ (i := 0) rfl
 have k2 := hS.at_ (i := 1) rfl
 have hb' := hS.keptL.box hmm hB
 refine ⟨(), rfl, trivial, hS.os, hS.tape, hS.output, hS.size, fun b hb hM => hS.block b hb (fun h => hM (List.mem_cons_of_mem _ h)), fun e he => ?_, fun e he b hb => ?_, List.pairwise_singleton _ _⟩
 · rw [List.mem_singleton.1 he]; exact ⟨hb', k1, k2, hne⟩
 · rw [List.mem_singleton.1 he] at hb
   rcases hb with rfl | rfl | rfl
   · exact ⟨.inr (by simp), hb'.lt⟩
   · exact ⟨.inr (by simp), MapF.lt k1⟩
   · exact ⟨.inr (by simp), MapF.lt k2⟩
theorem srt_tofR (s : List UInt8) : SrtT (tofR s) ∧ (∀ x ∈ (tofR s).ts, 0 ≤ x.i ∧ x.i ≤ 100000) ∧ (∀ x ∈ (tofR s).ds, 0 ≤ x.g ∧ x.g ≤ 100000) ∧ (tofR s).ts.length ≤ 60 ∧ (tofR s).ds.length ≤ 60 := by
 unfold tofR
 split
 · rename_i h
   have hz : tblE (tofV s) = 0 := by
    unfold tofE at h
    split at h
    · cases h
    · split at h
      · cases h
      · rw [firstE_zero] at h
        exact h _ (.tail _ (.head _))
   have hk := tblE_zero.1 hz
   refine ⟨hk.srt, fun x hx => ?_, fun x hx => ?_, hk.n, hk.m⟩
   · obtain ⟨k, hk', rfl⟩ := List.getElem_of_mem hx
     have h1 := (hk.ts k hk').i; omega
   · obtain ⟨k, hk', rfl⟩ := List.getElem_of_mem hx
     have h1 := (hk.ds k hk').g; omega
 · exact ⟨srt_tbl0, fun x hx => (by cases hx), fun x hx => (by cases hx), by decide, by decide⟩
structure BdN (n : Nat) (t : Tbl) : Prop where
 ts : ∀ x ∈ t.ts, 0 ≤ x.i ∧ x.i ≤ 100000
 ds : ∀ x ∈ t.ds, 0 ≤ x.g ∧ x.g ≤ 100000
 lt : t.ts.length ≤ n
 ld : t.ds.length ≤ n
theorem insK_len {α : Type} {κ : α → Int} (l : List α) (x : α) : (insK κ l x).length ≤ l.length + 1 := by
 unfold insK
 rw [List.length_append, List.length_cons]
 have : (l.filter fun y => decide (κ y < κ x)).length + (l.filter fun y => decide (κ x < κ y)).length ≤ l.length := by
  induction l with
  | nil => simp
  | cons y l ih =>
   rw [List.filter_cons, List.filter_cons]
   by_cases h1 : κ y < κ x
   · rw [if_pos (by simpa using h1), if_neg (by simp; omega)]; simp only [List.length_cons]; omega
   · rw [if_neg (by simpa using h1)]
     split <;> simp only [List.length_cons] <;> omega
 omega
theorem insK_mem {α : Type} {κ : α → Int} {l : List α} {x y : α} (h : y ∈ insK κ l x) : y = x ∨ y ∈ l := by
 unfold insK at h
 rcases List.mem_append.1 h with h | h
 · exact .inr (List.mem_filter.1 h).1
 · rcases List.mem_cons.1 h with h | h
   · exact .inl h
   · exact .inr (List.mem_filter.1 h).1
theorem BdN.chg {n : Nat} {t : Tbl} (h : BdN n t) {x : Rcd} (hx : entE x.e = 0) : BdN (n + 1) (chgT t x) := by
 obtain ⟨hp, _, _, hg⟩ := entE_p hx
 unfold chgT
 split
 · exact ⟨h.ts, h.ds, Nat.le_succ_of_le h.lt, Nat.le_succ_of_le h.ld⟩
 · refine ⟨fun y hy => ?_, fun y hy => ?_, ?_, ?_⟩
   · have hy : y ∈ (if x.e.k = 4 then delK Trn.i t.ts x.e.t else insK Trn.i t.ts (ownT t x)) := hy
     split at hy
     · exact h.ts y (List.mem_filter.1 hy).1
     · rcases insK_mem hy with rfl | hy
       · show 0 ≤ x.e.t ∧ x.e.t ≤ 100000; omega
       · exact h.ts y hy
   · have hy : y ∈ chgD t x := hy
     unfold chgD at hy
     split at hy
     · rcases insK_mem hy with rfl | hy
       · show 0 ≤ x.e.g ∧ x.e.g ≤ 100000; omega
       · exact h.ds y hy
     · exact h.ds y hy
   · show (if x.e.k = 4 then delK Trn.i t.ts x.e.t else insK Trn.i t.ts (ownT t x)).length ≤ n + 1
     have hl := h.lt
     split
     · have := List.length_filter_le (fun y => decide (Trn.i y ≠ x.e.t)) t.ts
       unfold delK; omega
     · have := insK_len (κ := Trn.i) t.ts (ownT t x); omega
   · show (chgD t x).length ≤ n + 1
     have hl := h.ld
     unfold chgD
     split
     · have := insK_len (κ := Dty.g) t.ds ⟨x.e.g, x.e.f, x.l⟩; omega
     · omega
theorem BdN.fold : ∀ {l : List Rcd} {n : Nat} {t : Tbl}, BdN n t → (∀ x ∈ l, entE x.e = 0) → BdN (n + l.length) (l.foldl chgT t)
 | [], _, _, h, _ => h
 | x :: l, n, t, h, hx => by
  have := (h.chg (hx x (List.mem_cons_self))).fold (fun y hy => hx y (List.mem_cons_of_mem _ hy)) (l := l)
  rw [List.length_cons, show n + (l.length + 1) = n + 1 + l.length by omega]
  exact this
def bhdL (l : List Rcd) (a : Int) : List Rcd := l.filter fun y => decide (a < y.l)
theorem bhdL_take (l : List Rcd) (a : Int) {j : Nat} (hj : j < l.length) : bhdL (l.take (j + 1)) a = if a < l[j].l then bhdL (l.take j) a ++ [l[j]] else bhdL (l.take j) a := by
 unfold bhdL
 rw [List.take_succ_eq_append_getElem hj, List.filter_append, List.filter_cons]
 by_cases h : a < l[j].l
 · rw [if_pos (by simpa using h), if_pos h]; rfl
 · rw [if_neg (by simpa using h), if_neg h]; simp
theorem fndA_get {l : List Rcd} (hs : SrtK Rcd.l l) {A : Option Addr} {n : Int} {w : World} {B : Nat} (hr : Rd w B A (l.flatMap rcdL)) (h : (fndA A l n).isNone = false) : ∃ b o, A = some ⟨b, o, none⟩ ∧ ∃ hk : bsN Rcd.l l n < l.length, l[bsN Rcd.l l n].l = n ∧ fndI l n = some l[bsN Rcd.l l n] ∧ fndA A l n = some ⟨b, o + bsN Rcd.l l n * 14 + 1, none⟩ := by
 have hb : bsB Rcd.l l n = true := by
  unfold fndA at h
  split at h
  · assumption
  · cases h
 obtain ⟨hk, _, _⟩ := bs_some hs hb
 obtain ⟨b, o, rfl, _⟩ := hr.opened (flat_pos rcdL_len (by decide) (by omega))
 obtain ⟨q1, q2, q3, q4⟩ := fndA_some hs h
 exact ⟨b, o, rfl, q1, q2, q3, q4⟩
theorem fndA_not {l : List Rcd} (hs : SrtK Rcd.l l) {A : Option Addr} {n : Int} {w : World} {B : Nat} (hr : Rd w B A (l.flatMap rcdL)) (h : (fndA A l n).isNone = true) : fndI l n = none := by
 rcases Nat.eq_zero_or_pos l.length with h0 | h0
 · rw [List.eq_nil_of_length_eq_zero h0]; rfl
 · obtain ⟨b, o, rfl, _⟩ := hr.opened (flat_pos rcdL_len (by decide) h0)
   exact fndA_none h
def kndB (l : List Rcd) (a : Int) : Bool := match fndI l a with | none => false | some x => x.e.k != 5
theorem bhd_all {l : List Rcd} (h : ∀ x ∈ l, 1 ≤ x.l) : bhdL l 0 = l := List.filter_eq_self.2 fun x hx => by have := h x hx; simp; omega
theorem analysed_any (l : List Rcd) (A : Option Addr) (c : Nat) (a : Int) (w : World) (hr : Rd w w.heap.size A (l.flatMap rcdL)) (hv : VldH l l.length) (hl : l.length ≤ 1000) (hx : ∀ x ∈ l, FewE x.e) :
 Calls Tryz.prog 78 #[.slice A l.length c, .int .i64 a] w fun e w' => ∃ i : Option Addr × Nat × Option Addr × Nat, e = .returned (.tuple #[tblV (anlV l a).1 i.1 i.2.1 i.2.2.1 i.2.2.2, .int .i64 (anlV l a).2]) ∧
  St [] w w' [.row (.slice i.1 (anlV l a).1.ts.length i.2.1) (anlV l a).1.ts.length 116 4 ((anlV l a).1.ts.flatMap trsL), .row (.slice i.2.2.1 (anlV l a).1.ds.length i.2.2.2) (anlV l a).1.ds.length 124 3 ((anlV l a).1.ds.flatMap dtyL)] := by
 have hsl : SrtK Rcd.l l := by have := hv.srt; rwa [List.take_length] at this
 have hel : ∀ x ∈ l, entE x.e = 0 := fun x hx => by
  obtain ⟨k, hk, rfl⟩ := List.getElem_of_mem hx
  exact (hv.e0 hk).2.2
 refine st_enter (N := 67) Tryz.func78 rfl rfl rfl (fun a0 h0 => ?_)
 have S0 := St.init w
 refine st_seq (st_reg ?_)
 refine na (.agg #[.slice none 0 0, .slice none 0 0]) h0 rfl S0 fun b4 a1 X1 gb4 h1 S1 => ?_
 refine ma h1 rfl rfl fun a2 h2 => ?_
 refine nsr ?_
 refine sv (v := tblV tbl0 none 0 none 0) h2 (ex_build (zs := [.slice none 0 0, .slice none 0 0]) (pl := [(0, 1), (1, 1)]) (by kernel_rfl) (by kernel_rfl) (h2.evs2 rfl) rfl rfl) fun a3 h3 => ?_
 refine sl_more h3 (wn rfl) (ex_call (fun _ _ => by kernel_rfl) (h3.evs rfl) rfl) rfl rfl S1 (tableOfE_any tbl0 none 0 none 0 _ (Rd.nil _ _ _) (Rd.nil _ _ _) srt_tbl0 (by decide)) fun p15 a4 X4 h4 S4 => ?_
 refine ma h4 rfl rfl fun a5 h5 => ?_
 obtain ⟨bt, m1, m2⟩ := p15
 refine st_nil (go_then (st_seq (st_seq (st_reg ?_))))
 refine mv h5 rfl rfl fun a6 h6 => ?_
 refine sv h6 (ex_neq (h6.ev rfl) (h6.ev rfl)) fun a7 h7 => ?_
 refine st_nil (go_then ?_)
 refine st_if (h7.ev rfl) (fun hc0 => ?_) (fun hc0 => ?_)
 ·
  have ha : a ≠ 0 := by simpa using hc0
  refine st_seq (st_reg ?_)
  refine mv h7 rfl rfl fun a8 h8 => ?_
  refine mv h8 rfl rfl fun a9 h9 => ?_
  refine sl_bel h9 (wn rfl) (ex_call (fun _ _ => by kernel_rfl) (h9.evs rfl) rfl) rfl rfl S4 (findA_any l hsl A c a _ (S4.rd0 hr) hl) fun a10 X10 h10 S10 => ?_
  refine ma h10 rfl rfl fun a11 h11 => ?_
  refine st_nil (go_then (st_seq (st_seq (st_reg ?_))))
  refine mv h11 rfl rfl fun a12 h12 => ?_
  refine sv h12 (ex_pnil Tryz.underlying219 (by kernel_rfl) (h12.ev rfl) (h12.ev rfl)) fun a13 h13 => ?_
  refine mv h13 rfl rfl fun a14 h14 => ?_
  apply sl_or (x := kndB l a) h14 S10 23 rfl 6 29
  case hf =>
   intro gc23
   obtain ⟨b', o', rfl, qk, q1, q2, q3⟩ := fndA_get hsl hr gc23
   refine sy h14 rfl rfl rfl gc23 (as_val (v' := .pointer (some ⟨b', o' + bsN Rcd.l l a * 14 + 1, none⟩)) (congrArg Value.pointer q3) (ex_move (h14.ev rfl))) rfl rfl fun a15 h15 => ?_
   refine sy h15 rfl rfl rfl gc23 (ex_nilck (h15.ev rfl)) rfl rfl fun a16 h16 => ?_
   refine sy h16 rfl rfl rfl gc23 (ex_field (off := 0) (by kernel_rfl) (h16.ev rfl) rfl) rfl rfl fun a17 h17 => ?_
   refine sy h17 rfl rfl rfl gc23 (ex_load (by kernel_rfl) (h17.ev rfl) ((entAt (S10.rd0 hr) qk) 0 _ rfl)) rfl rfl fun a18 h18 => ?_
   refine sy h18 rfl rfl rfl gc23 (as_val (v' := .bool (kndB l a)) (congrArg Value.bool (by unfold kndB; rw [q2])) (ex_neq (h18.ev rfl) (h18.ev rfl))) rfl rfl fun a19 h19 => ?_
   refine sv h19 (ex_pick_f (h19.ev rfl) gc23 (h19.ev rfl)) fun a20 h20 => ?_
   exact st_nil ⟨h20.mid (m := [(_, _), (_, _), (_, _), (_, _), (_, _)]) rfl, S10⟩
  case ht =>
   intro gc23
   refine no h14 rfl rfl rfl gc23 rfl rfl fun a21 h21 => ?_
   refine no h21 rfl rfl rfl gc23 rfl rfl fun a22 h22 => ?_
   refine no h22 rfl rfl rfl gc23 rfl rfl fun a23 h23 => ?_
   refine no h23 rfl rfl rfl gc23 rfl rfl fun a24 h24 => ?_
   refine no h24 rfl rfl rfl gc23 rfl rfl fun a25 h25 => ?_
   refine sv h25 (ex_pick_t (h25.ev rfl) gc23 (h25.ev rfl)) fun a26 h26 => ?_
   exact st_nil ⟨h26.mid (m := [(_, _), (_, _), (_, _), (_, _), (_, _)]) rfl, S10⟩
  case h =>
   rintro a27 X27 ⟨h27, S27⟩
   refine st_nil (go_then ?_)
   refine st_if (h27.ev rfl) (fun hc1 => ?_) (fun hc1 => ?_)
   ·
    have hbad : anlV l a = (tbl0, 6) := by
     unfold anlV
     rw [if_neg ha]
     rcases Bool.or_eq_true_iff.1 hc1 with r1 | r1
     · rw [fndA_not hsl hr r1]
     · unfold kndB at r1
       cases hq : fndI l a with
       | none => rfl
       | some x => rw [hq] at r1; simp only []; rw [if_pos (by simpa using r1)]
    refine st_seq (st_reg ?_)
    refine sv h27 (ex_build (zs := [.slice none 0 0, .slice none 0 0]) (pl := [(0, 1), (1, 1)]) (by kernel_rfl) (by kernel_rfl) (h27.evs2 rfl) rfl rfl) fun a28 h28 => ?_
    refine sl_store0 h28 (wn rfl) ⟨rfl, rfl⟩ (h28.ev rfl) (h28.ev rfl) rfl (by kernel_rfl) S27 (i := 1) rfl rfl rfl fun X29 S29 => ?_
    refine ma h28 rfl rfl fun a30 h30 => ?_
    refine st_nil (go_then (wp_ret (ret_then (ret_then ?_))))
    refine finct h30 rfl rfl rfl S29 (i := 1) rfl (by kernel_rfl) (by kernel_rfl) ?_
    refine ⟨(none, 0, none, 0), by rw [hbad]; rfl, ?_⟩
    rw [hbad]
    exact ((S29.sub (List.nil_sublist _)).nilRow 124 3).nilRow 116 4
   ·
    obtain ⟨r1, r2⟩ := Bool.or_eq_false_iff.1 hc1
    obtain ⟨b', o', rfl, qk, q1, q2, q3⟩ := fndA_get hsl hr r1
    have r3 : l[bsN Rcd.l l a].e.k = 5 := by unfold kndB at r2; rw [q2] at r2; simpa using r2
    generalize bsN Rcd.l l a = k at qk q1 q2 q3 r3 h27
    have hfe := hx _ (List.getElem_mem qk)
    refine wp_skip (go_then (st_seq (st_reg ?_)))
    refine sv h27 (as_val (v' := .pointer (some ⟨b', o' + k * 14 + 1, none⟩)) (congrArg Value.pointer q3) (ex_move (h27.ev rfl))) fun a31 h31 => ?_
    refine sv h31 (ex_nilck (h31.ev rfl)) fun a32 h32 => ?_
    refine sv h32 (ex_field (off := 12) (by kernel_rfl) (h32.ev rfl) rfl) fun a33 h33 => ?_
    refine sv h33 (ex_load (by kernel_rfl) (h33.ev rfl) ((entAt (S27.rd0 hr) qk) 12 _ rfl)) fun a34 h34 => ?_
    refine sl_more h34 (wn rfl) (ex_call (fun _ _ => by kernel_rfl) (h34.evs rfl) rfl) rfl rfl S27 (TableOf_any (bl l[k].e.d) _ hfe.d) fun p36 a35 X35 h35 S35 => ?_
    refine mv h35 rfl rfl fun a36 h36 => ?_
    refine sv (v := tblV (tofR (bl l[k].e.d)) p36.1 p36.2.1 p36.2.2.1 p36.2.2.2) h36 (ex_extract (h36.ev rfl) rfl) fun a37 h37 => ?_
    refine vx h37 rfl rfl rfl fun a38 h38 => ?_
    refine na (.agg #[.slice none 0 0, .slice none 0 0]) h38 rfl S35 fun b8 a39 X39 gb8 h39 S39 => ?_
    refine sl_store0 h39 (wn rfl) ⟨rfl, rfl⟩ (h39.ev rfl) (h39.ev rfl) rfl (by kernel_rfl) S39 (i := 0) rfl rfl rfl fun X40 S40 => ?_
    refine ma h39 rfl rfl fun a41 h41 => ?_
    obtain ⟨g1, g2, g3, g4, g5⟩ := srt_tofR (bl l[k].e.d)
    refine st_nil (go_then (st_reg ?_))
    refine sv (v := tblV (tofR (bl l[k].e.d)) p36.1 p36.2.1 p36.2.2.1 p36.2.2.2) h41 (ex_loads (by kernel_rfl) (by kernel_rfl) (h41.ev rfl) (S40.cellsAll (i := 0) rfl)) fun a42 h42 => ?_
    refine sl_more h42 (wn rfl) (ex_call (fun _ _ => by kernel_rfl) (h42.evs rfl) rfl) rfl rfl S40 (tableOfE_any (tofR (bl l[k].e.d)) p36.1 p36.2.1 p36.2.2.1 p36.2.2.2 _ (S40.rdOf (i := 1) rfl) (S40.rdOf (i := 2) rfl) g1 (by omega)) fun p40 a43 X43 h43 S43 => ?_
    refine ma h43 rfl rfl fun a44 h44 => ?_
    obtain ⟨bt, m1, m2⟩ := p40
    obtain ⟨T0, hT0⟩ : ∃ T0, T0 = tofR (bl l[k].e.d) := ⟨_, rfl⟩
    have hTs : SrtT T0 := by rw [hT0]; exact g1
    have hTb : BdN 60 T0 := by rw [hT0]; exact ⟨g2, g3, g4, g5⟩
    have hAn : anlV l a = anlG T0 (bhdL l a) := by unfold anlV; rw [if_neg ha, q2]; simp only []; rw [if_neg (by rw [r3]; decide), hT0]; rfl
    replace S43 : St [] w X43 [tabE bt m1 m2 (((bhdL (l.take 0) a)).foldl chgT T0), .box b4 #[.slice none 0 0, .slice none 0 0] 25] := by rw [hT0]; exact (S43.sub (.cons_cons _ (.cons _ (.cons _ (.cons _ (.cons _ (.cons_cons _ .slnil)))))))
    refine st_nil (go_then (st_seq (st_seq (st_reg ?_))))
    refine mv h44 rfl rfl fun a45 h45 => ?_
    refine sv h45 (ex_len Tryz.underlying180 (h45.ev rfl)) fun a46 h46 => ?_
    refine mv h46 rfl rfl fun a47 h47 => ?_
    refine st_nil (go_then (wp_block ?_))
    refine st_loop h47 S43 [42, 41, 6, 5, 4, 1] (fun (j : Nat) => [(43, .int .i64 j)]) (fun (j : Nat) => j ≤ l.length) (fun j L => L.set 0 (tabE bt m1 m2 ((bhdL (l.take j) a).foldl chgT T0))) (fun (j : Nat) => l.length - j) (0) (Nat.zero_le _) ⟨rfl, rfl, rfl, rfl, rfl, rfl, rfl, trivial⟩ (S43) ?_
    intro j a48 X48 hF0 h48 S48
    refine st_seq (st_reg ?_)
    refine sv h48 (ex_lss (h48.ev rfl) (h48.ev rfl)) fun a49 h49 => ?_
    refine st_nil (go_then (st_seq ?_))
    refine st_if (h49.ev rfl) (fun hc2 => ?_) (fun hc2 => ?_)
    ·
     have hlt : j < l.length := by have := of_decide_eq_true hc2; omega
     obtain ⟨b5, o5, hA5, hB5, _⟩ := hr.opened (flat_pos rcdL_len (by decide) (by omega))
     have hr5 := hr
     rw [hA5] at hr5
     refine wp_skip (go_then (st_seq (wp_block (st_seq (st_reg ?_)))))
     refine sv h49 (ex_index (b := b5) (o := o5) (i := j) (sz := 14) Tryz.underlying180 (by kernel_rfl) ((h49.ev rfl).trans (congrArg (fun A => Value.slice A l.length c) hA5)) (h49.ev rfl) rfl hlt rfl) fun a50 h50 => ?_
     refine sv (v := rcdV l[j]) h50 (ex_loads (by kernel_rfl) (by kernel_rfl) (h50.ev rfl) (flatAt rcdL_len (S48.rd0 hr5) hlt)) fun a51 h51 => ?_
     refine na (.agg #[.int .i64 0, .int .i64 0, .int .i64 0, .int .i64 0, .int .i64 0, .int .i64 0, .bool false, .int .i64 0, .int .i64 0, .int .i64 0, .int .i64 0, .string ⟨#[]⟩, .string ⟨#[]⟩, .string ⟨#[]⟩]) h51 rfl S48 fun b11 a52 X52 gb11 h52 S52 => ?_
     refine sl_store0 h52 (wn rfl) ⟨rfl, rfl⟩ (h52.ev rfl) (h52.ev rfl) rfl (by kernel_rfl) S52 (i := 0) rfl rfl rfl fun X53 S53 => ?_
     refine nsr ?_
     refine vf h52 0 0 rfl rfl rfl fun a54 h54 => ?_
     refine vl h54 S53 0 rfl rfl rfl rfl fun a55 h55 => ?_
     refine mv h55 rfl rfl fun a56 h56 => ?_
     refine sv h56 (ex_gtr (h56.ev rfl) (h56.ev rfl)) fun a57 h57 => ?_
     refine st_nil (go_then ?_)
     refine st_if (h57.ev rfl) (fun hc3 => ?_) (fun hc3 => ?_)
     ·
      have hgt : a < l[j].l := of_decide_eq_true hc3
      refine st_reg ?_
      refine mv h57 rfl rfl fun a58 h58 => ?_
      refine vf h58 0 0 rfl rfl rfl fun a59 h59 => ?_
      refine vl h59 S53 0 rfl rfl rfl rfl fun a60 h60 => ?_
      refine vf h60 1 1 rfl rfl rfl fun a61 h61 => ?_
      refine sv (v := entV l[j].e) h61 (ex_loads (by kernel_rfl) (by kernel_rfl) (h61.ev rfl) (S53.cellsOf (i := 0) rfl 1 13)) fun a62 h62 => ?_
      refine sl_updx h62 (wn rfl) (ex_call (fun _ _ => by kernel_rfl) (h62.evs rfl) rfl) rfl rfl S53 (i := 1) rfl (fun b hb => by rcases List.mem_cons.1 hb with h | hb; exact .inl h; rcases List.mem_cons.1 hb with h | hb; exact .inr (.inl h); exact .inr (.inr (List.mem_singleton.1 hb))) (addE_any _ l[j] bt m1 m2 _ (S53.at_ (i := 1) rfl)) fun p56 a63 X63 h63 hF56 S63 => ?_
      refine st_nil (go_block (go_then (st_reg ?_)))
      refine sv h63 (ex_add (h63.ev rfl) (h63.ev rfl) (by omega)) fun a64 h64 => ?_
      refine mv h64 rfl rfl fun a65 h65 => ?_
      refine st_nil (go_then ?_)
      exact ⟨j + 1, by omega, hlt, h65.re ⟨rfl, rfl, rfl, rfl, rfl, rfl, rfl, trivial⟩, (by have e9 := bhdL_take l a hlt; rw [if_pos hgt] at e9; show St [] w _ [tabE bt m1 m2 ((bhdL (l.take (j + 1)) a).foldl chgT T0), _]; rw [e9, List.foldl_append]; exact (S63.sub (.cons _ (.cons_cons _ (.cons_cons _ .slnil)))))⟩
     ·
      have hgt : ¬ a < l[j].l := of_decide_eq_false hc3
      refine wp_skip (go_block (go_then (st_reg ?_)))
      refine sv h57 (ex_add (h57.ev rfl) (h57.ev rfl) (by omega)) fun a66 h66 => ?_
      refine mv h66 rfl rfl fun a67 h67 => ?_
      refine st_nil (go_then ?_)
      exact ⟨j + 1, by omega, hlt, h67.re ⟨rfl, rfl, rfl, rfl, rfl, rfl, rfl, trivial⟩, (by have e9 := bhdL_take l a hlt; rw [if_neg hgt] at e9; show St [] w _ [tabE bt m1 m2 ((bhdL (l.take (j + 1)) a).foldl chgT T0), _]; rw [e9]; exact (S53.sub (.cons _ (.cons_cons _ (.cons_cons _ .slnil)))))⟩
    ·
     have hge : l.length ≤ j := by have := of_decide_eq_false hc2; omega
     obtain rfl : j = l.length := by have := hF0; omega
     obtain ⟨T1, hT1⟩ : ∃ T1, T1 = (bhdL l a).foldl chgT T0 := ⟨_, rfl⟩
     have hbl : (bhdL l a).length ≤ l.length := List.length_filter_le _ _
     have hTs1 : SrtT T1 := by rw [hT1]; exact hTs.fold
     have hTb1 : BdTbl T1 := by
      have := hTb.fold (l := bhdL l a) (fun x hx => hel x (List.mem_filter.1 hx).1)
      rw [hT1]
      exact ⟨this.ts, this.ds, by have := this.lt; omega, by have := this.ld; omega⟩
     have hAn1 : anlV l a = if tblE T1 ≠ 0 then (tbl0, tblE T1) else (T1, 0) := by rw [hAn, hT1]; rfl
     rw [List.take_length, ← hT1] at S48
     refine wp_exit ?_
     refine go_exit_then ?_
     refine go_exit_then ?_
     refine go_exit ?_
     refine go_then (st_seq (st_reg ?_))
     refine mv h49 rfl rfl fun a68 h68 => ?_
     refine sl_more h68 (wn rfl) (ex_call (fun _ _ => by kernel_rfl) (h68.evs rfl) rfl) rfl rfl S48 (list_any T1 bt m1 m2 _ (S48.at_ (i := 0) rfl).1 (S48.at_ (i := 0) rfl).2.1 (S48.at_ (i := 0) rfl).2.2.1 hTs1 hTb1) fun p59 a69 X69 h69 S69 => ?_
     refine na (.agg #[.slice none 0 0, .slice none 0 0]) h69 rfl S69 fun b12 a70 X70 gb12 h70 S70 => ?_
     refine sl_store0 h70 (wn rfl) ⟨rfl, rfl⟩ (h70.ev rfl) (h70.ev rfl) rfl (by kernel_rfl) S70 (i := 0) rfl rfl rfl fun X71 S71 => ?_
     refine st_nil (go_then (st_seq (st_seq (st_reg ?_))))
     refine sv (v := tblV T1 p59.1 p59.2.1 p59.2.2.1 p59.2.2.2) h70 (ex_loads (by kernel_rfl) (by kernel_rfl) (h70.ev rfl) (S71.cellsAll (i := 0) rfl)) fun a72 h72 => ?_
     refine sl_bel h72 (wn rfl) (ex_call (fun _ _ => by kernel_rfl) (h72.evs rfl) rfl) rfl rfl S71 (CheckTable_any T1 p59.1 p59.2.1 p59.2.2.1 p59.2.2.2 _ (S71.rdOf (i := 1) rfl) (S71.rdOf (i := 2) rfl)) fun a73 X73 h73 S73 => ?_
     refine ma h73 rfl rfl fun a74 h74 => ?_
     refine nsr ?_
     refine mv h74 rfl rfl fun a75 h75 => ?_
     refine sv h75 (ex_neq (h75.ev rfl) (h75.ev rfl)) fun a76 h76 => ?_
     refine st_nil (go_then ?_)
     refine st_if (h76.ev rfl) (fun hc4 => ?_) (fun hc4 => ?_)
     ·
      have hne : tblE T1 ≠ 0 := by simpa using hc4
      rw [if_pos hne] at hAn1
      refine st_seq (st_reg ?_)
      refine sv h76 (ex_build (zs := [.slice none 0 0, .slice none 0 0]) (pl := [(0, 1), (1, 1)]) (by kernel_rfl) (by kernel_rfl) (h76.evs2 rfl) rfl rfl) fun a77 h77 => ?_
      refine mv h77 rfl rfl fun a78 h78 => ?_
      refine sl_store0 h78 (wn rfl) ⟨rfl, rfl⟩ (h78.ev rfl) (h78.ev rfl) rfl (by kernel_rfl) S73 (i := 4) rfl rfl rfl fun X79 S79 => ?_
      refine ma h78 rfl rfl fun a80 h80 => ?_
      refine st_nil (go_then (wp_ret (ret_then ?_)))
      refine finct h80 rfl rfl rfl S79 (i := 4) rfl (by kernel_rfl) (by kernel_rfl) ?_
      refine ⟨(none, 0, none, 0), by rw [hAn1]; rfl, ?_⟩
      rw [hAn1]
      exact ((S79.sub (List.nil_sublist _)).nilRow 124 3).nilRow 116 4
     ·
      have hne : ¬ tblE T1 ≠ 0 := by simpa using hc4
      rw [if_neg hne] at hAn1
      refine wp_skip (go_then (st_seq (st_reg ?_)))
      refine sv (v := tblV T1 p59.1 p59.2.1 p59.2.2.1 p59.2.2.2) h76 (ex_loads (by kernel_rfl) (by kernel_rfl) (h76.ev rfl) (S73.cellsAll (i := 0) rfl)) fun a81 h81 => ?_
      refine sl_store0 h81 (wn rfl) ⟨rfl, rfl⟩ (h81.ev rfl) (h81.ev rfl) rfl (by kernel_rfl) S73 (i := 4) rfl rfl rfl fun X82 S82 => ?_
      refine ma h81 rfl rfl fun a83 h83 => ?_
      refine st_nil (go_then (wp_ret ?_))
      refine finct h83 rfl rfl rfl S82 (i := 4) rfl (by kernel_rfl) (by kernel_rfl) ?_
      refine ⟨p59, by rw [hAn1]; rfl, ?_⟩
      rw [hAn1]
      exact (S82.sub (.cons _ (.cons_cons _ (.cons_cons _ (.cons _ (.cons _ .slnil))))))
 ·
  have ha : a = 0 := by simpa using hc0
  obtain ⟨T0, hT0⟩ : ∃ T0, T0 = tbl0 := ⟨_, rfl⟩
  have hTs : SrtT T0 := by rw [hT0]; exact srt_tbl0
  have hTb : BdN 60 T0 := by rw [hT0]; exact ⟨fun x hx => (by cases hx), fun x hx => (by cases hx), by decide, by decide⟩
  have hAn : anlV l a = anlG T0 (bhdL l a) := by
   unfold anlV; rw [if_pos ha, hT0, ha, bhd_all]
   intro x hx
   obtain ⟨k, hk, rfl⟩ := List.getElem_of_mem hx
   exact (hv.e0 hk).1
  replace S4 : St [] w X4 [tabE bt m1 m2 (((bhdL (l.take 0) a)).foldl chgT T0), .box b4 #[.slice none 0 0, .slice none 0 0] 25] := by rw [hT0]; exact S4
  refine wp_skip (go_then (st_seq (st_seq (st_reg ?_))))
  refine mv h7 rfl rfl fun a84 h84 => ?_
  refine sv h84 (ex_len Tryz.underlying180 (h84.ev rfl)) fun a85 h85 => ?_
  refine mv h85 rfl rfl fun a86 h86 => ?_
  refine st_nil (go_then (wp_block ?_))
  refine st_loop h86 S4 [42, 41, 6, 5, 4, 1] (fun (j : Nat) => [(43, .int .i64 j)]) (fun (j : Nat) => j ≤ l.length) (fun j L => L.set 0 (tabE bt m1 m2 ((bhdL (l.take j) a).foldl chgT T0))) (fun (j : Nat) => l.length - j) (0) (Nat.zero_le _) ⟨rfl, rfl, rfl, rfl, rfl, rfl, rfl, trivial⟩ (S4) ?_
  intro j a87 X87 hF0 h87 S87
  refine st_seq (st_reg ?_)
  refine sv h87 (ex_lss (h87.ev rfl) (h87.ev rfl)) fun a88 h88 => ?_
  refine st_nil (go_then (st_seq ?_))
  refine st_if (h88.ev rfl) (fun hc2 => ?_) (fun hc2 => ?_)
  ·
   have hlt : j < l.length := by have := of_decide_eq_true hc2; omega
   obtain ⟨b5, o5, hA5, hB5, _⟩ := hr.opened (flat_pos rcdL_len (by decide) (by omega))
   have hr5 := hr
   rw [hA5] at hr5
   refine wp_skip (go_then (st_seq (wp_block (st_seq (st_reg ?_)))))
   refine sv h88 (ex_index (b := b5) (o := o5) (i := j) (sz := 14) Tryz.underlying180 (by kernel_rfl) ((h88.ev rfl).trans (congrArg (fun A => Value.slice A l.length c) hA5)) (h88.ev rfl) rfl hlt rfl) fun a89 h89 => ?_
   refine sv (v := rcdV l[j]) h89 (ex_loads (by kernel_rfl) (by kernel_rfl) (h89.ev rfl) (flatAt rcdL_len (S87.rd0 hr5) hlt)) fun a90 h90 => ?_
   refine na (.agg #[.int .i64 0, .int .i64 0, .int .i64 0, .int .i64 0, .int .i64 0, .int .i64 0, .bool false, .int .i64 0, .int .i64 0, .int .i64 0, .int .i64 0, .string ⟨#[]⟩, .string ⟨#[]⟩, .string ⟨#[]⟩]) h90 rfl S87 fun b11 a91 X91 gb11 h91 S91 => ?_
   refine sl_store0 h91 (wn rfl) ⟨rfl, rfl⟩ (h91.ev rfl) (h91.ev rfl) rfl (by kernel_rfl) S91 (i := 0) rfl rfl rfl fun X92 S92 => ?_
   refine nsr ?_
   refine vf h91 0 0 rfl rfl rfl fun a93 h93 => ?_
   refine vl h93 S92 0 rfl rfl rfl rfl fun a94 h94 => ?_
   refine mv h94 rfl rfl fun a95 h95 => ?_
   refine sv h95 (ex_gtr (h95.ev rfl) (h95.ev rfl)) fun a96 h96 => ?_
   refine st_nil (go_then ?_)
   refine st_if (h96.ev rfl) (fun hc3 => ?_) (fun hc3 => ?_)
   ·
    have hgt : a < l[j].l := of_decide_eq_true hc3
    refine st_reg ?_
    refine mv h96 rfl rfl fun a97 h97 => ?_
    refine vf h97 0 0 rfl rfl rfl fun a98 h98 => ?_
    refine vl h98 S92 0 rfl rfl rfl rfl fun a99 h99 => ?_
    refine vf h99 1 1 rfl rfl rfl fun a100 h100 => ?_
    refine sv (v := entV l[j].e) h100 (ex_loads (by kernel_rfl) (by kernel_rfl) (h100.ev rfl) (S92.cellsOf (i := 0) rfl 1 13)) fun a101 h101 => ?_
    refine sl_updx h101 (wn rfl) (ex_call (fun _ _ => by kernel_rfl) (h101.evs rfl) rfl) rfl rfl S92 (i := 1) rfl (fun b hb => by rcases List.mem_cons.1 hb with h | hb; exact .inl h; rcases List.mem_cons.1 hb with h | hb; exact .inr (.inl h); exact .inr (.inr (List.mem_singleton.1 hb))) (addE_any _ l[j] bt m1 m2 _ (S92.at_ (i := 1) rfl)) fun p56 a102 X102 h102 hF56 S102 => ?_
    refine st_nil (go_block (go_then (st_reg ?_)))
    refine sv h102 (ex_add (h102.ev rfl) (h102.ev rfl) (by omega)) fun a103 h103 => ?_
    refine mv h103 rfl rfl fun a104 h104 => ?_
    refine st_nil (go_then ?_)
    exact ⟨j + 1, by omega, hlt, h104.re ⟨rfl, rfl, rfl, rfl, rfl, rfl, rfl, trivial⟩, (by have e9 := bhdL_take l a hlt; rw [if_pos hgt] at e9; show St [] w _ [tabE bt m1 m2 ((bhdL (l.take (j + 1)) a).foldl chgT T0), _]; rw [e9, List.foldl_append]; exact (S102.sub (.cons _ (.cons_cons _ (.cons_cons _ .slnil)))))⟩
   ·
    have hgt : ¬ a < l[j].l := of_decide_eq_false hc3
    refine wp_skip (go_block (go_then (st_reg ?_)))
    refine sv h96 (ex_add (h96.ev rfl) (h96.ev rfl) (by omega)) fun a105 h105 => ?_
    refine mv h105 rfl rfl fun a106 h106 => ?_
    refine st_nil (go_then ?_)
    exact ⟨j + 1, by omega, hlt, h106.re ⟨rfl, rfl, rfl, rfl, rfl, rfl, rfl, trivial⟩, (by have e9 := bhdL_take l a hlt; rw [if_neg hgt] at e9; show St [] w _ [tabE bt m1 m2 ((bhdL (l.take (j + 1)) a).foldl chgT T0), _]; rw [e9]; exact (S92.sub (.cons _ (.cons_cons _ (.cons_cons _ .slnil)))))⟩
  ·
   have hge : l.length ≤ j := by have := of_decide_eq_false hc2; omega
   obtain rfl : j = l.length := by have := hF0; omega
   obtain ⟨T1, hT1⟩ : ∃ T1, T1 = (bhdL l a).foldl chgT T0 := ⟨_, rfl⟩
   have hbl : (bhdL l a).length ≤ l.length := List.length_filter_le _ _
   have hTs1 : SrtT T1 := by rw [hT1]; exact hTs.fold
   have hTb1 : BdTbl T1 := by
    have := hTb.fold (l := bhdL l a) (fun x hx => hel x (List.mem_filter.1 hx).1)
    rw [hT1]
    exact ⟨this.ts, this.ds, by have := this.lt; omega, by have := this.ld; omega⟩
   have hAn1 : anlV l a = if tblE T1 ≠ 0 then (tbl0, tblE T1) else (T1, 0) := by rw [hAn, hT1]; rfl
   rw [List.take_length, ← hT1] at S87
   refine wp_exit ?_
   refine go_exit_then ?_
   refine go_exit_then ?_
   refine go_exit ?_
   refine go_then (st_seq (st_reg ?_))
   refine mv h88 rfl rfl fun a107 h107 => ?_
   refine sl_more h107 (wn rfl) (ex_call (fun _ _ => by kernel_rfl) (h107.evs rfl) rfl) rfl rfl S87 (list_any T1 bt m1 m2 _ (S87.at_ (i := 0) rfl).1 (S87.at_ (i := 0) rfl).2.1 (S87.at_ (i := 0) rfl).2.2.1 hTs1 hTb1) fun p59 a108 X108 h108 S108 => ?_
   refine na (.agg #[.slice none 0 0, .slice none 0 0]) h108 rfl S108 fun b12 a109 X109 gb12 h109 S109 => ?_
   refine sl_store0 h109 (wn rfl) ⟨rfl, rfl⟩ (h109.ev rfl) (h109.ev rfl) rfl (by kernel_rfl) S109 (i := 0) rfl rfl rfl fun X110 S110 => ?_
   refine st_nil (go_then (st_seq (st_seq (st_reg ?_))))
   refine sv (v := tblV T1 p59.1 p59.2.1 p59.2.2.1 p59.2.2.2) h109 (ex_loads (by kernel_rfl) (by kernel_rfl) (h109.ev rfl) (S110.cellsAll (i := 0) rfl)) fun a111 h111 => ?_
   refine sl_bel h111 (wn rfl) (ex_call (fun _ _ => by kernel_rfl) (h111.evs rfl) rfl) rfl rfl S110 (CheckTable_any T1 p59.1 p59.2.1 p59.2.2.1 p59.2.2.2 _ (S110.rdOf (i := 1) rfl) (S110.rdOf (i := 2) rfl)) fun a112 X112 h112 S112 => ?_
   refine ma h112 rfl rfl fun a113 h113 => ?_
   refine nsr ?_
   refine mv h113 rfl rfl fun a114 h114 => ?_
   refine sv h114 (ex_neq (h114.ev rfl) (h114.ev rfl)) fun a115 h115 => ?_
   refine st_nil (go_then ?_)
   refine st_if (h115.ev rfl) (fun hc4 => ?_) (fun hc4 => ?_)
   ·
    have hne : tblE T1 ≠ 0 := by simpa using hc4
    rw [if_pos hne] at hAn1
    refine st_seq (st_reg ?_)
    refine sv h115 (ex_build (zs := [.slice none 0 0, .slice none 0 0]) (pl := [(0, 1), (1, 1)]) (by kernel_rfl) (by kernel_rfl) (h115.evs2 rfl) rfl rfl) fun a116 h116 => ?_
    refine mv h116 rfl rfl fun a117 h117 => ?_
    refine sl_store0 h117 (wn rfl) ⟨rfl, rfl⟩ (h117.ev rfl) (h117.ev rfl) rfl (by kernel_rfl) S112 (i := 4) rfl rfl rfl fun X118 S118 => ?_
    refine ma h117 rfl rfl fun a119 h119 => ?_
    refine st_nil (go_then (wp_ret (ret_then ?_)))
    refine finct h119 rfl rfl rfl S118 (i := 4) rfl (by kernel_rfl) (by kernel_rfl) ?_
    refine ⟨(none, 0, none, 0), by rw [hAn1]; rfl, ?_⟩
    rw [hAn1]
    exact ((S118.sub (List.nil_sublist _)).nilRow 124 3).nilRow 116 4
   ·
    have hne : ¬ tblE T1 ≠ 0 := by simpa using hc4
    rw [if_neg hne] at hAn1
    refine wp_skip (go_then (st_seq (st_reg ?_)))
    refine sv (v := tblV T1 p59.1 p59.2.1 p59.2.2.1 p59.2.2.2) h115 (ex_loads (by kernel_rfl) (by kernel_rfl) (h115.ev rfl) (S112.cellsAll (i := 0) rfl)) fun a120 h120 => ?_
    refine sl_store0 h120 (wn rfl) ⟨rfl, rfl⟩ (h120.ev rfl) (h120.ev rfl) rfl (by kernel_rfl) S112 (i := 4) rfl rfl rfl fun X121 S121 => ?_
    refine ma h120 rfl rfl fun a122 h122 => ?_
    refine st_nil (go_then (wp_ret ?_))
    refine finct h122 rfl rfl rfl S121 (i := 4) rfl (by kernel_rfl) (by kernel_rfl) ?_
    refine ⟨p59, by rw [hAn1]; rfl, ?_⟩
    rw [hAn1]
    exact (S121.sub (.cons _ (.cons_cons _ (.cons_cons _ (.cons _ (.cons _ .slnil))))))
theorem chk_vld {l : List Rcd} (h : (chkH l).2 = 0) : l.length ≤ 100 ∧ VldH l l.length := by
 unfold chkH at h
 split at h
 · cases h
 · rename_i h1
   exact ⟨by omega, Nat.le_refl _, fun k hk _ => (eachE_iff _ l).1 h k hk⟩
def anlR (l : List Rcd) (a : Int) : Tbl × Int := if (chkH l).2 ≠ 0 then (tbl0, (chkH l).2) else anlV l a
theorem Analysed_any (l : List Rcd) (A : Option Addr) (c : Nat) (a : Int) (w : World) (hr : Rd w w.heap.size A (l.flatMap rcdL)) (hl : l.length ≤ 1000) (hc : l.length ≤ c) (hF : FolT w) (hx : ∀ x ∈ l, FewE x.e) :
 Calls Tryz.prog 24 #[.slice A l.length c, .int .i64 a] w fun e w' => ∃ i : Option Addr × Nat × Option Addr × Nat, e = .returned (.tuple #[tblV (anlR l a).1 i.1 i.2.1 i.2.2.1 i.2.2.2, .int .i64 (anlR l a).2]) ∧
  St [] w w' [.row (.slice i.1 (anlR l a).1.ts.length i.2.1) (anlR l a).1.ts.length 116 4 ((anlR l a).1.ts.flatMap trsL), .row (.slice i.2.2.1 (anlR l a).1.ds.length i.2.2.2) (anlR l a).1.ds.length 124 3 ((anlR l a).1.ds.flatMap dtyL)] := by
 refine st_enter (N := 18) Tryz.func24 rfl rfl rfl (fun a0 h0 => ?_)
 have S0 := St.init w
 refine st_seq (st_reg ?_)
 refine na (.agg #[.slice none 0 0, .slice none 0 0]) h0 rfl S0 fun b4 a1 X1 gb4 h1 S1 => ?_
 refine ma h1 rfl rfl fun a2 h2 => ?_
 refine st_nil (go_then (st_seq (st_seq (st_reg ?_))))
 refine mv h2 rfl rfl fun a3 h3 => ?_
 refine sl_bel h3 (wn rfl) (ex_call (fun _ _ => by kernel_rfl) (h3.evs rfl) rfl) rfl rfl S1 (historyErr_any l A c _ (S1.rd0 hr) hl hc (hF.below S1.below) hx) fun a4 X4 h4 S4 => ?_
 refine ma h4 rfl rfl fun a5 h5 => ?_
 refine nsr ?_
 refine mv h5 rfl rfl fun a6 h6 => ?_
 refine sv h6 (ex_neq (h6.ev rfl) (h6.ev rfl)) fun a7 h7 => ?_
 refine st_nil (go_then ?_)
 refine st_if (h7.ev rfl) (fun hc0 => ?_) (fun hc0 => ?_)
 ·
  have hne : (chkH l).2 ≠ 0 := by simpa using hc0
  have e1 : anlR l a = (tbl0, (chkH l).2) := by unfold anlR; rw [if_pos hne]
  refine st_seq (st_reg ?_)
  refine sv h7 (ex_build (zs := [.slice none 0 0, .slice none 0 0]) (pl := [(0, 1), (1, 1)]) (by kernel_rfl) (by kernel_rfl) (h7.evs2 rfl) rfl rfl) fun a8 h8 => ?_
  refine mv h8 rfl rfl fun a9 h9 => ?_
  refine sl_store0 h9 (wn rfl) ⟨rfl, rfl⟩ (h9.ev rfl) (h9.ev rfl) rfl (by kernel_rfl) S4 (i := 0) rfl rfl rfl fun X10 S10 => ?_
  refine ma h9 rfl rfl fun a11 h11 => ?_
  refine st_nil (go_then (wp_ret (ret_then ?_)))
  refine finct h11 rfl rfl rfl S10 (i := 0) rfl (by kernel_rfl) (by kernel_rfl) ?_
  refine ⟨(none, 0, none, 0), by rw [e1]; rfl, ?_⟩
  rw [e1]
  exact ((S10.sub (List.nil_sublist _)).nilRow 124 3).nilRow 116 4
 ·
  have hz : (chkH l).2 = 0 := by simpa using hc0
  have e1 : anlR l a = anlV l a := by unfold anlR; rw [if_neg (fun h => h hz)]
  obtain ⟨hl2, hv⟩ := chk_vld hz
  refine wp_skip (go_then (st_seq (st_reg ?_)))
  refine mv h7 rfl rfl fun a12 h12 => ?_
  refine mv h12 rfl rfl fun a13 h13 => ?_
  refine sl_more h13 (wn rfl) (ex_call (fun _ _ => by kernel_rfl) (h13.evs rfl) rfl) rfl rfl S4 (analysed_any l A c a _ (S4.rd0 hr) hv hl hx) fun p15 a14 X14 h14 S14 => ?_
  refine sv (v := tblV (anlV l a).1 p15.1 p15.2.1 p15.2.2.1 p15.2.2.2) h14 (ex_extract (h14.ev rfl) rfl) fun a15 h15 => ?_
  refine vx h15 rfl rfl rfl fun a16 h16 => ?_
  refine sl_store0 h16 (wn rfl) ⟨rfl, rfl⟩ (h16.ev rfl) (h16.ev rfl) rfl (by kernel_rfl) S14 (i := 2) rfl rfl rfl fun X17 S17 => ?_
  refine ma h16 rfl rfl fun a18 h18 => ?_
  refine st_nil (go_then (wp_ret ?_))
  refine finct h18 rfl rfl rfl S17 (i := 2) rfl (by kernel_rfl) (by kernel_rfl) ?_
  refine ⟨p15, by rw [e1]; rfl, ?_⟩
  rw [e1]
  exact (S17.sub (.cons_cons _ (.cons_cons _ (.cons _ .slnil))))
end Go.Proofs.YtcfdpfmchchkaaaGreatDoor
